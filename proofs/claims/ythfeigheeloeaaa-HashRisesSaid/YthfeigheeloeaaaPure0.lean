import Derived.Test.YthfeigheeloeaaaP2
namespace Go.Proofs.Ythfeigheeloeaaa.Pure
open Go.RowKit Go.Proofs.Ythfeigheeloeaaa.P Go.Proofs.YthfeigheeloeaaaW.PrintWords Go.Proofs.YthfeigheeloeaaaW.PrintLast Go.Proofs.YthfeigheeloeaaaW.PrintMore
open Hash Plain Logs

theorem awake_true : reeflaw01_awake.f = some true := by decide +kernel

theorem wf_u32 {x : Int} (h : (Lit.int .u32 x).wf = true) : 0 ≤ x ∧ x < 4294967296 := by
  simp [Lit.wf, IntKind.min, IntKind.max, IntKind.bits, IntKind.signed] at h
  omega
theorem wrap_succ {i n : Nat} (h : i < n) (hn : n ≤ 9223372036854775807) : wrap64 ((i : Int) + 1) = ((i + 1 : Nat) : Int) := by
  unfold wrap64; omega

/-! four bytes -/
theorem words_four (k : Nat) (x : List Int) (h : Int) (i : Nat) (hi : i < x.length) (hn : x.length ≤ 9223372036854775807) :
    reefref01_Words.l1 (k + 5) x h i 0 = reefref01_Words.l0 k x (mixl32 16777619 h (upto (lowb32 (rd x i)) 4)) ((i + 1 : Nat) : Int) := by
  have e0 : (0:Int) ≤ (i : Int) := by omega
  have e1 : (i : Int) < (x.length : Int) := by omega
  have w0 : wrap64 (0 + 1) = 1 := by decide +kernel
  have w1 : wrap64 (1 + 1) = 2 := by decide +kernel
  have w2 : wrap64 (2 + 1) = 3 := by decide +kernel
  have w3 : wrap64 (3 + 1) = 4 := by decide +kernel
  have s0 : IntKind.u64.wrap (wrap64 (8 * 0)) = 0 := by decide +kernel
  have s1 : IntKind.u64.wrap (wrap64 (8 * 1)) = 8 := by decide +kernel
  have s2 : IntKind.u64.wrap (wrap64 (8 * 2)) = 16 := by decide +kernel
  have s3 : IntKind.u64.wrap (wrap64 (8 * 3)) = 24 := by decide +kernel
  simp only [reefref01_Words.l1, if_pos e0, if_pos e1, w0, w1, w2, w3, s0, s1, s2, s3, reefref01_mix.f, Option.bind_some]
  rw [if_pos (by decide), if_pos (by decide), if_pos (by decide), if_pos (by decide), if_pos (by decide), if_pos (by decide), if_pos (by decide), if_pos (by decide), if_neg (by decide), wrap_succ hi hn]
  rfl
theorem words_l0 (x : List Int) (hn : x.length ≤ 9223372036854775807) : ∀ (d i : Nat) (h : Int), i + d = x.length →
    Ev (fun k => reefref01_Words.l0 k x h i) (((reefref01_ended.f (wmix32 h (x.drop i))).getD 0)) := by
  intro d
  induction d with
  | zero =>
    intro i h hi
    refine Ev.step (f := fun _ => some ((reefref01_ended.f (wmix32 h (x.drop i))).getD 0)) (fun k => ?_) (Ev.now _)
    simp only [reefref01_Words.l0]
    rw [if_neg (by omega), List.drop_eq_nil_of_le (by omega)]
    rfl
  | succ d ih =>
    intro i h hi
    refine Ev.step (f := fun k => reefref01_Words.l1 k x h i 0) (fun k => ?_) ?_
    · simp only [reefref01_Words.l0]
      rw [if_pos (by omega)]
    · have := ih (i + 1) (mixl32 16777619 h (upto (lowb32 (rd x i)) 4)) (by omega)
      obtain ⟨K, hK⟩ := this
      refine ⟨K + 5, fun k hk => ?_⟩
      obtain ⟨k, rfl⟩ : ∃ m, k = m + 5 := ⟨k - 5, by omega⟩
      show reefref01_Words.l1 (k + 5) x h i 0 = _
      refine (words_four k x h i (by omega) hn).trans ((hK k (by omega)).trans ?_)
      rw [List.drop_eq_getElem_cons (show i < x.length by omega)]
      have e : rd x i = x[i] := by simp [rd, show i < x.length by omega]
      rw [e]
      rfl
theorem ended_last (h : Int) : reefref01_ended.f h = hash_last32.f h := rfl
theorem words_ev (x : List Int) (hn : x.length ≤ 9223372036854775807) : Ev (fun k => reefref01_Words.f k x) ((hash_Words.f x).getD 0) := by
  have := words_l0 x hn x.length 0 2166136261 (by omega)
  rw [ended_last, List.drop_zero] at this
  exact this
theorem words_some (x : List Int) : hash_Words.f x = some ((hash_Words.f x).getD 0) := rfl

/-! texts -/
theorem byteAt_bt (s : ByteArray) (k : Nat) : byteAt s k = bt s k := by simp [byteAt, bt]
theorem text_l0 (s : ByteArray) (hn : s.size ≤ 9223372036854775807) : ∀ (d i : Nat) (h : Int), i + d = s.size →
    Ev (fun k => reefref01_Text.l0 k s h i) (((reefref01_ended.f (mixl32 16777619 h ((upto (byteAt s) s.size).drop i))).getD 0)) := by
  intro d
  induction d with
  | zero =>
    intro i h hi
    refine Ev.step (f := fun _ => some ((reefref01_ended.f (mixl32 16777619 h ((upto (byteAt s) s.size).drop i))).getD 0)) (fun k => ?_) (Ev.now _)
    simp only [reefref01_Text.l0]
    rw [if_neg (by omega), List.drop_eq_nil_of_le (by rw [upto_length]; omega)]
    rfl
  | succ d ih =>
    intro i h hi
    refine Ev.step (f := fun k => reefref01_Text.l0 k s (stp32 16777619 h (byteAt s i)) ((i + 1 : Nat) : Int)) (fun k => ?_) ?_
    · simp only [reefref01_Text.l0]
      rw [if_pos (by omega), if_pos (by omega), ← byteAt_bt, wrap_succ (show i < s.size by omega) hn]
      rfl
    · have := ih (i + 1) (stp32 16777619 h (byteAt s i)) (by omega)
      rw [List.drop_eq_getElem_cons (show i < (upto (byteAt s) s.size).length by rw [upto_length]; omega)]
      have e : (upto (byteAt s) s.size)[i]'(by rw [upto_length]; omega) = byteAt s i := by simp [upto]
      rw [e]
      exact this
theorem text_ev (s : ByteArray) (hn : s.size ≤ 9223372036854775807) : Ev (fun k => reefref01_Text.f k s) ((hash_Text.f s).getD 0) := by
  have := text_l0 s hn s.size 0 2166136261 (by omega)
  rw [ended_last, List.drop_zero] at this
  unfold hash_Text.f
  rw [if_pos hn]
  exact this
theorem text_some (s : ByteArray) (hn : s.size ≤ 9223372036854775807) : hash_Text.f s = some ((hash_Text.f s).getD 0) := by unfold hash_Text.f; rw [if_pos hn]; rfl
theorem digest_l0 (s : ByteArray) (hn : s.size ≤ 9223372036854775807) : ∀ (d i : Nat) (h : Int), i + d = s.size →
    Ev (fun k => reefref01_Digest.l0 k s h i) (((hash_last64.f (mixl64 1099511628211 h ((upto (byteAt s) s.size).drop i))).getD 0)) := by
  intro d
  induction d with
  | zero =>
    intro i h hi
    refine Ev.step (f := fun _ => some ((hash_last64.f (mixl64 1099511628211 h ((upto (byteAt s) s.size).drop i))).getD 0)) (fun k => ?_) (Ev.now _)
    simp only [reefref01_Digest.l0]
    rw [if_neg (by omega), List.drop_eq_nil_of_le (by rw [upto_length]; omega)]
    rfl
  | succ d ih =>
    intro i h hi
    refine Ev.step (f := fun k => reefref01_Digest.l0 k s (stp64 1099511628211 h (byteAt s i)) ((i + 1 : Nat) : Int)) (fun k => ?_) ?_
    · simp only [reefref01_Digest.l0]
      rw [if_pos (by omega), if_pos (by omega), ← byteAt_bt, wrap_succ (show i < s.size by omega) hn]
      rfl
    · have := ih (i + 1) (stp64 1099511628211 h (byteAt s i)) (by omega)
      rw [List.drop_eq_getElem_cons (show i < (upto (byteAt s) s.size).length by rw [upto_length]; omega)]
      have e : (upto (byteAt s) s.size)[i]'(by rw [upto_length]; omega) = byteAt s i := by simp [upto]
      rw [e]
      exact this
theorem digest_ev (s : ByteArray) (hn : s.size ≤ 9223372036854775807) : Ev (fun k => reefref01_Digest.f k s) ((hash_Digest.f s).getD 0) := by
  have := digest_l0 s hn s.size 0 14695981039346656037 (by omega)
  rw [List.drop_zero] at this
  unfold hash_Digest.f
  rw [if_pos hn]
  exact this
theorem digest_some (s : ByteArray) (hn : s.size ≤ 9223372036854775807) : hash_Digest.f s = some ((hash_Digest.f s).getD 0) := by unfold hash_Digest.f; rw [if_pos hn]; rfl

/-! joining -/
def eights : List Int → List Int
  | [] => []
  | x :: l => upto (lowb64 x) 8 ++ eights l
theorem eights_length (l : List Int) : (eights l).length = 8 * l.length := by
  induction l with
  | nil => rfl
  | cons x l ih => simp [eights, upto_length, ih]; omega
theorem join_eight (k : Nat) (x b : List Int) (i : Nat) (hi : i < x.length) (hn : x.length ≤ 9223372036854775807) (hb : b.length + 8 ≤ 140737488355328) :
    reefref01_Join.l1 (k + 9) x b i 0 = reefref01_Join.l0 k x (b ++ upto (lowb64 (rd x i)) 8) ((i + 1 : Nat) : Int) := by
  have e0 : (0:Int) ≤ (i : Int) := by omega
  have e1 : (i : Int) < (x.length : Int) := by omega
  have w0 : wrap64 (0 + 1) = 1 := by decide +kernel
  have w1 : wrap64 (1 + 1) = 2 := by decide +kernel
  have w2 : wrap64 (2 + 1) = 3 := by decide +kernel
  have w3 : wrap64 (3 + 1) = 4 := by decide +kernel
  have w4 : wrap64 (4 + 1) = 5 := by decide +kernel
  have w5 : wrap64 (5 + 1) = 6 := by decide +kernel
  have w6 : wrap64 (6 + 1) = 7 := by decide +kernel
  have w7 : wrap64 (7 + 1) = 8 := by decide +kernel
  have s0 : IntKind.u64.wrap (wrap64 (8 * 0)) = 0 := by decide +kernel
  have s1 : IntKind.u64.wrap (wrap64 (8 * 1)) = 8 := by decide +kernel
  have s2 : IntKind.u64.wrap (wrap64 (8 * 2)) = 16 := by decide +kernel
  have s3 : IntKind.u64.wrap (wrap64 (8 * 3)) = 24 := by decide +kernel
  have s4 : IntKind.u64.wrap (wrap64 (8 * 4)) = 32 := by decide +kernel
  have s5 : IntKind.u64.wrap (wrap64 (8 * 5)) = 40 := by decide +kernel
  have s6 : IntKind.u64.wrap (wrap64 (8 * 6)) = 48 := by decide +kernel
  have s7 : IntKind.u64.wrap (wrap64 (8 * 7)) = 56 := by decide +kernel
  have c0 : (0:Int) < 8 := by decide
  have c1 : (1:Int) < 8 := by decide
  have c2 : (2:Int) < 8 := by decide
  have c3 : (3:Int) < 8 := by decide
  have c4 : (4:Int) < 8 := by decide
  have c5 : (5:Int) < 8 := by decide
  have c6 : (6:Int) < 8 := by decide
  have c7 : (7:Int) < 8 := by decide
  have z : (0:Int) ≤ 0 ∧ (0:Int) ≤ 8 ∧ (0:Int) ≤ 16 ∧ (0:Int) ≤ 24 ∧ (0:Int) ≤ 32 ∧ (0:Int) ≤ 40 ∧ (0:Int) ≤ 48 ∧ (0:Int) ≤ 56 := by decide
  obtain ⟨z0, z1, z2, z3, z4, z5, z6, z7⟩ := z
  have b0 : b.length < 140737488355328 := by omega
  have bb : ∀ (c : List Int), c.length ≤ 7 → (b ++ c).length < 140737488355328 := fun c hc => by rw [List.length_append]; omega
  simp only [reefref01_Join.l1, if_pos e0, if_pos e1, w0, w1, w2, w3, w4, w5, w6, w7, s0, s1, s2, s3, s4, s5, s6, s7, if_pos c0, if_pos c1, if_pos c2, if_pos c3, if_pos c4, if_pos c5, if_pos c6, if_pos c7, if_pos z0, if_pos z1, if_pos z2, if_pos z3, if_pos z4, if_pos z5, if_pos z6, if_pos z7, if_pos b0, List.append_assoc, List.singleton_append]
  rw [if_pos (bb _ (by simp)), if_pos (bb _ (by simp)), if_pos (bb _ (by simp)), if_pos (bb _ (by simp)), if_pos (bb _ (by simp)), if_pos (bb _ (by simp)), if_pos (bb _ (by simp)), if_neg (by decide), wrap_succ hi hn]
  rfl
theorem join_l0 (x : List Int) (hn : x.length * 8 ≤ 140737488351232) : ∀ (d i : Nat) (b : List Int), i + d = x.length → b.length = 8 * i →
    Ev (fun k => reefref01_Join.l0 k x b i) ((hash_Digest.f (strOfNums (b ++ eights (x.drop i)))).getD 0) := by
  intro d
  induction d with
  | zero =>
    intro i b hi hb
    have hsz : (strOfNums b).size ≤ 9223372036854775807 := by
      have : (strOfNums b).size = b.length := by simp [strOfNums, ByteArray.size]
      omega
    refine Ev.step (f := fun k => (reefref01_Digest.f k (strOfNums b)).bind fun t => some t) (fun k => ?_) ?_
    · simp only [reefref01_Join.l0]
      rw [if_neg (by omega)]
    · rw [List.drop_eq_nil_of_le (by omega), eights, List.append_nil]
      exact (digest_ev _ hsz).bind (f := fun _ t => some t) (Ev.now _)
  | succ d ih =>
    intro i b hi hb
    refine Ev.step (f := fun k => reefref01_Join.l1 k x b i 0) (fun k => ?_) ?_
    · simp only [reefref01_Join.l0]
      rw [if_pos (by omega)]
    · obtain ⟨K, hK⟩ := ih (i + 1) (b ++ upto (lowb64 (rd x i)) 8) (by omega) (by rw [List.length_append, upto_length]; omega)
      refine ⟨K + 9, fun k hk => ?_⟩
      obtain ⟨k, rfl⟩ : ∃ m, k = m + 9 := ⟨k - 9, by omega⟩
      show reefref01_Join.l1 (k + 9) x b i 0 = _
      refine (join_eight k x b i (by omega) (by omega) (by omega)).trans ((hK k (by omega)).trans ?_)
      rw [List.drop_eq_getElem_cons (show i < x.length by omega)]
      have e : rd x i = x[i] := by simp [rd, show i < x.length by omega]
      rw [e, eights, List.append_assoc]

theorem byte_of (n : Int) (h0 : 0 ≤ n) (h1 : n < 256) : ((UInt8.ofNat n.toNat).toNat : Int) = n := by
  rw [UInt8.toNat_ofNat']; omega
theorem upto_strOfNums (ys : List Int) (h : ∀ y ∈ ys, 0 ≤ y ∧ y < 256) : upto (byteAt (strOfNums ys)) ys.length = ys := by
  apply List.ext_getElem
  · rw [upto_length]
  · intro i h1 h2
    have hs : i < (strOfNums ys).size := by rw [strOfNums_size]; exact h2
    have hm := h _ (List.getElem_mem h2)
    have e : (upto (byteAt (strOfNums ys)) ys.length)[i]'h1 = byteAt (strOfNums ys) i := by simp [upto]
    rw [e, byteAt, dif_pos hs]
    show (((strOfNums ys).data[i]'hs).toNat : Int) = _
    rw [← byte_of _ hm.1 hm.2]
    simp [strOfNums]
theorem eights_rng (l : List Int) : ∀ y ∈ eights l, 0 ≤ y ∧ y < 256 := by
  induction l with
  | nil => intro y hy; cases hy
  | cons x l ih =>
    intro y hy
    rw [eights, List.mem_append] at hy
    rcases hy with hy | hy
    · simp only [upto, List.mem_map, List.mem_range] at hy
      obtain ⟨j, _, rfl⟩ := hy
      unfold lowb64
      omega
    · exact ih y hy
theorem mixl64_append (fac h : Int) (a b : List Int) : mixl64 fac h (a ++ b) = mixl64 fac (mixl64 fac h a) b := by simp [mixl64]
theorem mixl32_append (fac h : Int) (a b : List Int) : mixl32 fac h (a ++ b) = mixl32 fac (mixl32 fac h a) b := by simp [mixl32]
theorem wmix64_eights (l : List Int) : ∀ h, wmix64 h l = mixl64 1099511628211 h (eights l) := by
  induction l with
  | nil => intro h; simp [wmix64, eights, mixl64]
  | cons x l ih => intro h; rw [eights, mixl64_append, ← ih]; simp [wmix64]
theorem join_ev (x : List Int) (hn : x.length * 8 ≤ 140737488351232) : Ev (fun k => reefref01_Join.f k x) ((hash_Join.f x).getD 0) := by
  have := join_l0 x hn x.length 0 [] (by omega) rfl
  rw [List.drop_zero, List.nil_append] at this
  have e : hash_Digest.f (strOfNums (eights x)) = hash_Join.f x := by
    have hl := eights_length x
    unfold hash_Digest.f hash_Join.f
    rw [strOfNums_size, if_pos (by omega), upto_strOfNums _ (eights_rng x), wmix64_eights]
  rw [e] at this
  exact this
theorem join_some (x : List Int) : hash_Join.f x = some ((hash_Join.f x).getD 0) := rfl
end Go.Proofs.Ythfeigheeloeaaa.Pure

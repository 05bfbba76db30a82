/- Plain mathematics of the sum of layer 3 (CRC-32C): 32 bits in a row that are turned are told. -/
namespace Go.Proofs.Ytoadflcdpcfibaa.Crc

def poly : BitVec 32 := 0x82f63b78#32
/-- One bit further. -/
def st (r : BitVec 32) : BitVec 32 := (r >>> 1) ^^^ (if r.getLsbD 0 then poly else 0#32)
def stn : Nat → BitVec 32 → BitVec 32
  | 0, r => r
  | n + 1, r => stn n (st r)
theorem stn_succ' (n : Nat) (r : BitVec 32) : stn (n + 1) r = st (stn n r) := by
  induction n generalizing r with
  | zero => rfl
  | succ n ih => show stn (n + 1) (st r) = _; rw [ih]; rfl
theorem stn_add (m n : Nat) (r : BitVec 32) : stn (m + n) r = stn n (stn m r) := by
  induction m generalizing r with
  | zero => simp [stn]
  | succ m ih => rw [Nat.succ_add]; show stn (m + n) (st r) = _; rw [ih]; rfl
theorem st_zero : st 0#32 = 0#32 := by decide
theorem stn_zero (n : Nat) : stn n 0#32 = 0#32 := by
  induction n with
  | zero => rfl
  | succ n ih => show stn n (st 0#32) = _; rw [st_zero, ih]
theorem xor4 (a b c d : BitVec 32) : (a ^^^ b) ^^^ (c ^^^ d) = (a ^^^ c) ^^^ (b ^^^ d) := by
  ext i hi; simp only [BitVec.getElem_xor]; cases a[i] <;> cases b[i] <;> cases c[i] <;> cases d[i] <;> rfl
theorem st_xor (a b : BitVec 32) : st (a ^^^ b) = st a ^^^ st b := by
  unfold st
  rw [BitVec.ushiftRight_xor_distrib, xor4]
  congr 1
  rw [BitVec.getLsbD_xor]
  cases a.getLsbD 0 <;> cases b.getLsbD 0 <;> decide
theorem stn_xor (n : Nat) (a b : BitVec 32) : stn n (a ^^^ b) = stn n a ^^^ stn n b := by
  induction n generalizing a b with
  | zero => rfl
  | succ n ih => show stn n (st (a ^^^ b)) = _; rw [st_xor, ih]; rfl
theorem st_inj {r : BitVec 32} (h : st r = 0#32) : r = 0#32 := by
  have h31 : (st r).getLsbD 31 = false := by rw [h]; rfl
  have h0 : r.getLsbD 0 = false := by
    cases e : r.getLsbD 0 with
    | false => rfl
    | true =>
      unfold st at h31
      rw [e] at h31
      simp [poly] at h31
  have hs : r >>> 1 = 0#32 := by
    unfold st at h
    rw [h0] at h
    simpa using h
  apply BitVec.eq_of_getLsbD_eq
  intro i hi
  cases i with
  | zero => rw [h0]; rfl
  | succ i =>
    have : (r >>> 1).getLsbD i = false := by rw [hs]; simp
    rw [BitVec.getLsbD_ushiftRight, Nat.add_comm] at this
    simp [this]
theorem stn_inj {n : Nat} {r : BitVec 32} (h : stn n r = 0#32) : r = 0#32 := by
  induction n generalizing r with
  | zero => exact h
  | succ n ih => exact st_inj (ih h)

/-- A bit is taken in. -/
def one (b : Bool) : BitVec 32 := if b then 1#32 else 0#32
def fd (r : BitVec 32) (b : Bool) : BitVec 32 := st (r ^^^ one b)
theorem low_split (c : BitVec 32) : c = one (c.getLsbD 0) ^^^ ((c >>> 1) <<< 1) := by
  apply BitVec.eq_of_getLsbD_eq
  intro i hi
  rw [BitVec.getLsbD_xor]
  cases i with
  | zero => unfold one; cases c.getLsbD 0 <;> simp
  | succ i =>
    have e1 : (one (c.getLsbD 0)).getLsbD (i + 1) = false := by unfold one; cases c.getLsbD 0 <;> simp [BitVec.getLsbD_one]
    rw [e1, BitVec.getLsbD_shiftLeft, BitVec.getLsbD_ushiftRight]
    simp [hi, Nat.add_comm]
theorem st_even (c : BitVec 32) : st ((c >>> 1) <<< 1) = c >>> 1 := by
  unfold st
  have e : ((c >>> 1) <<< 1).getLsbD 0 = false := by simp
  rw [e]
  simp only [Bool.false_eq_true, if_false, BitVec.xor_zero]
  apply BitVec.eq_of_getLsbD_eq
  intro i hi
  rw [BitVec.getLsbD_ushiftRight, BitVec.getLsbD_shiftLeft, BitVec.getLsbD_ushiftRight]
  by_cases h : i = 31
  · subst h; simp
  · have : 1 + i < 32 := by omega
    rw [BitVec.getLsbD_ushiftRight, show 1 + (1 + i - 1) = 1 + i by omega, decide_eq_true this, decide_eq_false (show ¬ 1 + i < 1 by omega)]; rfl
theorem st_feed (r c : BitVec 32) : st (r ^^^ c) = fd r (c.getLsbD 0) ^^^ (c >>> 1) := by
  rw [show r ^^^ c = (r ^^^ one (c.getLsbD 0)) ^^^ ((c >>> 1) <<< 1) by rw [BitVec.xor_assoc, ← low_split], st_xor, st_even]
  rfl
/-- Bits taken in from a place on. -/
def run (d : Nat → Bool) : Nat → BitVec 32 → Nat → BitVec 32
  | _, r, 0 => r
  | p, r, n + 1 => run d (p + 1) (fd r (d p)) n
theorem run_add (d : Nat → Bool) (p : Nat) (r : BitVec 32) (m n : Nat) : run d p r (m + n) = run d (p + m) (run d p r m) n := by
  induction m generalizing p r with
  | zero => simp [run]
  | succ m ih => rw [Nat.succ_add]; show run d (p + 1) (fd r (d p)) (m + n) = _; rw [ih]; show _ = run d (p + (m + 1)) (run d (p + 1) (fd r (d p)) m) n; rw [show p + 1 + m = p + (m + 1) by omega]
theorem run_word (d : Nat → Bool) (n p : Nat) (r c : BitVec 32) (h : ∀ i, i < n → d (p + i) = c.getLsbD i) : stn n (r ^^^ c) = run d p r n ^^^ (c >>> n) := by
  induction n generalizing p r c with
  | zero => simp [stn, run]
  | succ n ih =>
    show stn n (st (r ^^^ c)) = _
    have h0 : d p = c.getLsbD 0 := by simpa using h 0 (by omega)
    rw [st_feed, ih (p + 1) (fd r (c.getLsbD 0)) (c >>> 1) (fun i hi => by rw [BitVec.getLsbD_ushiftRight, ← h (1 + i) (by omega)]; congr 1; omega)]
    show _ = run d (p + 1) (fd r (d p)) n ^^^ _
    rw [h0, ← BitVec.shiftRight_add, Nat.add_comm n 1]
theorem run_none (d : Nat → Bool) (n p : Nat) (r : BitVec 32) (h : ∀ i, i < n → d (p + i) = false) : run d p r n = stn n r := by
  induction n generalizing p r with
  | zero => rfl
  | succ n ih =>
    have h0 : d p = false := by simpa using h 0 (by omega)
    show run d (p + 1) (fd r (d p)) n = stn n (st r)
    rw [ih (p + 1) _ (fun i hi => by rw [← h (1 + i) (by omega)]; congr 1; omega), h0]
    simp [fd, one]
/-- Bits that all lie within 32 places, and whose sum is none, are none. -/
theorem window (d : Nat → Bool) (from_ N : Nat) (W : BitVec 32) (hd : ∀ p, d p = (decide (from_ ≤ p) && W.getLsbD (p - from_))) (hN : ∀ p, N ≤ p → d p = false) (h : run d 0 0#32 N = 0#32) : W = 0#32 := by
  have hW : ∀ i, W.getLsbD i = d (from_ + i) := fun i => by rw [hd]; simp
  have h1 : run d 0 0#32 from_ = 0#32 := by
    rw [run_none d from_ 0 _ (fun i hi => by rw [hd]; simp; omega), stn_zero]
  have h2 : run d 0 0#32 (N + (from_ + 32)) = 0#32 := by
    rw [run_add, h, run_none d _ _ _ (fun i _ => hN _ (by omega)), stn_zero]
  have h3 : run d 0 0#32 (from_ + 32 + N) = stn N (stn 32 W) := by
    rw [run_add, run_add, h1, run_none d N _ _ (fun i _ => by rw [hd, show 0 + (from_ + 32) + i - from_ = 32 + i by omega]; simp), Nat.zero_add]
    have := run_word d 32 from_ 0#32 W (fun i hi => (hW i).symm)
    rw [BitVec.zero_xor] at this
    rw [this]
    congr 1
    rw [show W >>> 32 = 0#32 from by apply BitVec.eq_of_getLsbD_eq; intro i hi; simp, BitVec.xor_zero]
  rw [show from_ + 32 + N = N + (from_ + 32) by omega, h2] at h3
  exact stn_inj (stn_inj h3.symm)

/-- A byte is taken in. -/
def byt (r c : BitVec 32) : BitVec 32 := stn 8 (r ^^^ c)
theorem byt_run (d : Nat → Bool) (p : Nat) (r c : BitVec 32) (hc : c.toNat < 256) (h : ∀ j, j < 8 → d (p + j) = c.getLsbD j) : byt r c = run d p r 8 := by
  unfold byt
  rw [run_word d 8 p r c h]
  have : c >>> 8 = 0#32 := by
    apply BitVec.eq_of_toNat_eq
    rw [BitVec.toNat_ushiftRight, Nat.shiftRight_eq_div_pow]
    simp; omega
  rw [this, BitVec.xor_zero]
theorem byt_xor (r s c e : BitVec 32) : byt (r ^^^ s) (c ^^^ e) = byt r c ^^^ byt s e := by
  unfold byt; rw [xor4, stn_xor]
def regs (r : BitVec 32) (l : List (BitVec 32)) : BitVec 32 := l.foldl byt r
theorem regs_xor (l m : List (BitVec 32)) (h : l.length = m.length) (r s : BitVec 32) : regs (r ^^^ s) (List.zipWith (· ^^^ ·) l m) = regs r l ^^^ regs s m := by
  induction l generalizing m r s with
  | nil => cases m with
    | nil => rfl
    | cons _ _ => cases h
  | cons a l ih => cases m with
    | nil => cases h
    | cons b m =>
      show regs (byt (r ^^^ s) (a ^^^ b)) (List.zipWith (· ^^^ ·) l m) = regs (byt r a) l ^^^ regs (byt s b) m
      rw [byt_xor, ih m (by simpa using h)]
theorem regs_run (d : Nat → Bool) (l : List (BitVec 32)) (p : Nat) (r : BitVec 32) (h : ∀ i (hi : i < l.length), l[i].toNat < 256 ∧ ∀ j, j < 8 → d (p + 8 * i + j) = l[i].getLsbD j) : regs r l = run d p r (8 * l.length) := by
  induction l generalizing p r with
  | nil => rfl
  | cons a l ih =>
    show regs (byt r a) l = _
    have h0 := h 0 (by simp)
    rw [byt_run d p r a h0.1 (fun j hj => by simpa using h0.2 j hj), ih (p + 8) _ (fun i hi => by
      have := h (i + 1) (by simpa using hi)
      refine ⟨this.1, fun j hj => ?_⟩
      rw [show p + 8 + 8 * i + j = p + 8 * (i + 1) + j by omega]
      exact this.2 j hj)]
    rw [show 8 * (a :: l).length = 8 + 8 * l.length by simp; omega, run_add]
/-- Four bytes that are the register's own leave nothing. -/
theorem regs_own (r : BitVec 32) (l : List (BitVec 32)) (hl : l.length = 4) (h : ∀ i (hi : i < l.length), l[i].toNat < 256 ∧ ∀ j, j < 8 → r.getLsbD (8 * i + j) = l[i].getLsbD j) : regs r l = 0#32 := by
  rw [regs_run (fun p => r.getLsbD p) l 0 r (fun i hi => ⟨(h i hi).1, fun j hj => by rw [Nat.zero_add]; exact (h i hi).2 j hj⟩), hl]
  have := run_word (fun p => r.getLsbD p) 32 0 r r (fun i _ => by rw [Nat.zero_add])
  rw [BitVec.xor_self, stn_zero, show r >>> 32 = 0#32 from by apply BitVec.eq_of_getLsbD_eq; intro i hi; simp, BitVec.xor_zero] at this
  exact this.symm
end Go.Proofs.Ytoadflcdpcfibaa.Crc

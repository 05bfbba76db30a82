import Derived.Test.YthfeigheeloeaaaP1
import Derived.Test.YthfeigheeloeaaaHash
import Derived.Test.YthfeigheeloeaaaLogs
import Derived.Deep.LoopGhost
namespace Go.Proofs.Ythfeigheeloeaaa.P
open Go.RowKit Go.Proofs.YthfeigheeloeaaaW.PrintWords Go.Proofs.YthfeigheeloeaaaW.PrintLast Go.Proofs.YthfeigheeloeaaaW.PrintMore
open Hash Plain Logs
set_option linter.unusedVariables false
set_option linter.unusedSimpArgs false

def hash_Log.f (a0 : Int) : Option (Int) := if 0 ≤ a0 ∧ a0 < 4294967296 then some (logN a0.toNat) else none
theorem hash_Log.calls (a0 : Int) (r : Int) (w : World) (h : hash_Log.f a0 = some r) :
    Calls Try.prog 16 #[.int .u32 a0] w fun e w' => e = .returned (.int .u32 r) ∧ Drawn0 w w' := by
  unfold hash_Log.f at h
  split at h
  · rename_i hr
    obtain ⟨x, rfl⟩ := Int.eq_ofNat_of_zero_le hr.1
    obtain rfl := Option.some.inj h
    exact (log_any x (by omega) w).mono fun e w' ⟨he, hw⟩ => ⟨he, hw ▸ Drawn0.refl _⟩
  · cases h
def reefref01_Log.f (a0 : Int) : Option (Int) := if 0 ≤ a0 ∧ a0 < 4294967296 then some (logN a0.toNat) else none
theorem reefref01_Log.calls (a0 : Int) (r : Int) (w : World) (h : reefref01_Log.f a0 = some r) :
    Calls Try.prog 17 #[.int .u32 a0] w fun e w' => e = .returned (.int .u32 r) ∧ Drawn0 w w' := by
  unfold reefref01_Log.f at h
  split at h
  · rename_i hr
    obtain ⟨x, rfl⟩ := Int.eq_ofNat_of_zero_le hr.1
    obtain rfl := Option.some.inj h
    exact (rlog_any x (by omega) w).mono fun e w' ⟨he, hw⟩ => ⟨he, hw ▸ Drawn0.refl _⟩
  · cases h

def hash_Text.f (a0 : ByteArray) : Option (Int) := if a0.size ≤ 9223372036854775807 then hash_last32.f (mixl32 16777619 2166136261 (upto (byteAt a0) a0.size)) else none
theorem hash_Text.calls (a0 : ByteArray) (r : Int) (w : World) (h : hash_Text.f a0 = some r) :
    Calls Try.prog 9 #[.string a0] w fun e w' => e = .returned (.int .u32 r) ∧ Below w.heap.size w w' := by
  unfold hash_Text.f at h
  split at h
  · rename_i hs
    have H := Aside0.mk h
    clear h
    go_enter Try.func9, Try.ntmps9
    go_wp2_with (first | (go_at_call 23; refine (text_calls a0 _).mono ?_; rintro e w' ⟨rfl, rfl⟩) | (go_at_call 18; refine (mix32_text _ _ a0 hs w).mono ?_; rintro e w1 ⟨rfl, hb⟩) | (go_at_call 20; refine (hash_last32.calls _ r _ H.out).mono ?_; rintro e w2 ⟨rfl, ⟨nd, rfl⟩⟩))
    go_ret
    exact ⟨rfl, pw_below_drewN hb _⟩
  · cases h
def hash_Digest.f (a0 : ByteArray) : Option (Int) := if a0.size ≤ 9223372036854775807 then hash_last64.f (mixl64 1099511628211 14695981039346656037 (upto (byteAt a0) a0.size)) else none
theorem hash_Digest.calls (a0 : ByteArray) (r : Int) (w : World) (h : hash_Digest.f a0 = some r) :
    Calls Try.prog 11 #[.string a0] w fun e w' => e = .returned (.int .u64 r) ∧ Below w.heap.size w w' := by
  unfold hash_Digest.f at h
  split at h
  · rename_i hs
    have H := Aside0.mk h
    clear h
    go_enter Try.func11, Try.ntmps11
    go_wp2_with (first | (go_at_call 23; refine (text_calls a0 _).mono ?_; rintro e w' ⟨rfl, rfl⟩) | (go_at_call 25; refine (mix64_text _ _ a0 hs w).mono ?_; rintro e w1 ⟨rfl, hb⟩) | (go_at_call 24; refine (hash_last64.calls _ r _ H.out).mono ?_; rintro e w2 ⟨rfl, ⟨nd, rfl⟩⟩))
    go_ret
    exact ⟨rfl, pw_below_drewN hb _⟩
  · cases h

def wmix32 (h : Int) (l : List Int) : Int := l.foldl (fun h x => mixl32 16777619 h (upto (lowb32 x) 4)) h
def wmix64 (h : Int) (l : List Int) : Int := l.foldl (fun h x => mixl64 1099511628211 h (upto (lowb64 x) 8)) h
theorem take_rd (l : List Int) (k : Nat) (h : k < l.length) : l.take (k + 1) = l.take k ++ [rd l k] := by
  rw [List.take_succ_eq_append_getElem h]; simp [rd, h]
theorem wmix32_take (h : Int) (l : List Int) (k : Nat) (hk : k < l.length) : wmix32 h (l.take (k + 1)) = mixl32 16777619 (wmix32 h (l.take k)) (upto (lowb32 (rd l k)) 4) := by
  rw [take_rd l k hk]; simp [wmix32]
theorem wmix64_take (h : Int) (l : List Int) (k : Nat) (hk : k < l.length) : wmix64 h (l.take (k + 1)) = mixl64 1099511628211 (wmix64 h (l.take k)) (upto (lowb64 (rd l k)) 8) := by
  rw [take_rd l k hk]; simp [wmix64]

def hash_Words.f (l0 : List Int) : Option (Int) := hash_last32.f (wmix32 2166136261 l0)
set_option maxHeartbeats 2000000 in
set_option maxRecDepth 100000 in
theorem hash_Words.calls (A0 : Option Addr) (c0 : Nat) (l0 : List Int) (r : Int) (w : World) (hr0 : Kd.C (Kd.int .u32) w A0 l0.length l0) (hc0 : l0.length ≤ c0) (h : hash_Words.f l0 = some r) :
    Calls Try.prog 7 #[.slice A0 l0.length c0] w fun e w' => e = .returned (.int .u32 r) ∧ Below w.heap.size w w' := by
  have H := Aside0.mk h
  have HR := Aside0.mk hr0
  have hm := Kd.C_max hr0
  clear h hr0
  go_enter Try.func7, Try.ntmps7
  go_wp2
  go_loopw [3, 8] (fun v i wr => ∃ k : Nat, k ≤ l0.length ∧ i = .int .i64 k ∧ v = .int .u32 (wmix32 2166136261 (l0.take k)) ∧ Below w.heap.size w wr) (fun _ i _ => l0.length - (intOf i).toNat)
  case atStart => exact ⟨0, Nat.zero_le _, rfl, rfl, Below.refl _ _⟩
  case round =>
    obtain ⟨k, hk, rfl, rfl, hB⟩ := hrel
    by_cases hlt : k < l0.length
    · have HS := Lib.hid (wmix32_take 2166136261 l0 k hlt)
      obtain ⟨ad, e0, hx⟩ := Kd.at_int (Kd.C_below HR.out hB) (k : Int) (by omega) (by omega)
      cases e0
      simp only [Int.toNat_natCast] at hx
      go_wp2_with (first | (go_at_call 19; refine (low32_calls _ _ _).mono ?_; rintro e w' ⟨rfl, rfl⟩) | (go_at_call 18; refine (mix32_low _ _ _ wr).mono ?_; rintro e w1 ⟨rfl, hb⟩))
      go_roundw
      case rel => exact ⟨k + 1, by omega, by simp, by rw [HS.out], below_then hB hB.size hb⟩
      case measure => simp [intOf]; omega
    · obtain rfl : k = l0.length := by omega
      rw [List.take_length]
      go_wp2_with (go_at_call 20; refine (hash_last32.calls _ r _ H.out).mono ?_; rintro e w2 ⟨rfl, ⟨nd, rfl⟩⟩)
      go_ret
      exact ⟨rfl, pw_below_drewN hB _⟩
def hash_Join.f (l0 : List Int) : Option (Int) := hash_last64.f (wmix64 14695981039346656037 l0)
set_option maxHeartbeats 2000000 in
set_option maxRecDepth 100000 in
theorem hash_Join.calls (A0 : Option Addr) (c0 : Nat) (l0 : List Int) (r : Int) (w : World) (hr0 : Kd.C (Kd.int .u64) w A0 l0.length l0) (hc0 : l0.length ≤ c0) (h : hash_Join.f l0 = some r) :
    Calls Try.prog 13 #[.slice A0 l0.length c0] w fun e w' => e = .returned (.int .u64 r) ∧ Below w.heap.size w w' := by
  have H := Aside0.mk h
  have HR := Aside0.mk hr0
  have hm := Kd.C_max hr0
  clear h hr0
  go_enter Try.func13, Try.ntmps13
  go_wp2
  go_loopw [3, 8] (fun v i wr => ∃ k : Nat, k ≤ l0.length ∧ i = .int .i64 k ∧ v = .int .u64 (wmix64 14695981039346656037 (l0.take k)) ∧ Below w.heap.size w wr) (fun _ i _ => l0.length - (intOf i).toNat)
  case atStart => exact ⟨0, Nat.zero_le _, rfl, rfl, Below.refl _ _⟩
  case round =>
    obtain ⟨k, hk, rfl, rfl, hB⟩ := hrel
    by_cases hlt : k < l0.length
    · have HS := Lib.hid (wmix64_take 14695981039346656037 l0 k hlt)
      obtain ⟨ad, e0, hx⟩ := Kd.at_int (Kd.C_below HR.out hB) (k : Int) (by omega) (by omega)
      cases e0
      simp only [Int.toNat_natCast] at hx
      go_wp2_with (first | (go_at_call 26; refine (low64_calls _ _ _).mono ?_; rintro e w' ⟨rfl, rfl⟩) | (go_at_call 25; refine (mix64_low _ _ _ wr).mono ?_; rintro e w1 ⟨rfl, hb⟩))
      go_roundw
      case rel => exact ⟨k + 1, by omega, by simp, by rw [HS.out], below_then hB hB.size hb⟩
      case measure => simp [intOf]; omega
    · obtain rfl : k = l0.length := by omega
      rw [List.take_length]
      go_wp2_with (go_at_call 24; refine (hash_last64.calls _ r _ H.out).mono ?_; rintro e w2 ⟨rfl, ⟨nd, rfl⟩⟩)
      go_ret
      exact ⟨rfl, pw_below_drewN hB _⟩
end Go.Proofs.Ythfeigheeloeaaa.P

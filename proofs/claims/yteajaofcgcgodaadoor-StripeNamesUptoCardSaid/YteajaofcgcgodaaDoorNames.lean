/- stripe.Name, the document's Name: under what the row lays of the library's variables. -/
import Derived.Lib.AppendIntMem
import Derived.Lib.ItoaLen
import Derived.Test.YteajaofcgcgodaaDoorShelf
import Derived.Test.YteajaofcgcgodaaDoorPureImage
namespace Go.Proofs.YteajaofcgcgodaaDoor.P
open Go.RowKit Go.Proofs Go.Proofs.YteajaofcgcgodaaDoorW.PrintWords Go.Proofs.YteajaofcgcgodaaDoorW.PrintLast Go.Proofs.YteajaofcgcgodaaDoorW.PrintMore
open Go.Proofs.YteajaofcgcgodaaDoor.Pure
set_option linter.unusedVariables false
set_option linter.unusedSimpArgs false
/-- What is known of the library's variables. -/
def LT (w : World) : Prop := (∃ m, w.cell? ⟨0, 0, none⟩ = some (.int .i64 m)) ∧ (∃ ev, w.cell? ⟨1, 0, none⟩ = some ev ∧ (ev = .nilIface ∨ ∃ te pe, ev = .iface te pe)) ∧ (∃ ev, w.cell? ⟨2, 0, none⟩ = some ev ∧ (ev = .nilIface ∨ ∃ te pe, ev = .iface te pe)) ∧ Lib.TabIs Tryd.prog w "internal/strconv.uint64pow10" .u64 Lib.pow10Tab
theorem LT.below {w W : World} (h : LT w) (hb : Below w.heap.size w W) : LT W := by
  obtain ⟨⟨m, hm⟩, ⟨e1, h1, q1⟩, ⟨e2, h2, q2⟩, ht⟩ := h
  refine ⟨⟨m, (hb.cell (World.block_lt_of_cell? w _ hm)).trans hm⟩, ⟨e1, (hb.cell (World.block_lt_of_cell? w _ h1)).trans h1, q1⟩, ⟨e2, (hb.cell (World.block_lt_of_cell? w _ h2)).trans h2, q2⟩, ?_⟩
  unfold Lib.TabIs at ht ⊢
  unfold World.var? at ht ⊢
  cases hg : Tryd.prog.globalNamed "internal/strconv.uint64pow10" with
  | none => simp [hg] at ht
  | some g =>
    simp only [hg, Option.bind_some] at ht ⊢
    have hlt : g < w.heap.size := by
      by_cases q : g < w.heap.size
      · exact q
      · simp [Array.getElem?_eq_none (Nat.not_lt.1 q)] at ht
    rw [hb.block g hlt]; exact ht
set_option maxHeartbeats 4000000 in
set_option maxRecDepth 100000 in
theorem name_bad (s : ByteArray) (i : Int) (k : Nat) (w : World) (hi : stripe_image.f k s = some false) :
    Calls Tryd.prog 32 #[.string s, .int .i64 i] w fun e w' => e = .returned (.string ⟨#[]⟩) ∧ Below w.heap.size w w' := by
  go_enter Tryd.func32, Tryd.ntmps32
  go_wp2_with (go_at_call 39; refine (stripe_image.calls k s false _ hi).mono ?_; rintro e w1 ⟨rfl, hd⟩)
  go_ret
  exact ⟨rfl, hd.below⟩
set_option maxHeartbeats 4000000 in
set_option maxRecDepth 100000 in
theorem name_low (s : ByteArray) (i : Int) (k : Nat) (w : World) (hi : stripe_image.f k s = some true) (h : decide (i < 0) = true) :
    Calls Tryd.prog 32 #[.string s, .int .i64 i] w fun e w' => e = .returned (.string ⟨#[]⟩) ∧ Below w.heap.size w w' := by
  go_enter Tryd.func32, Tryd.ntmps32
  go_wp2_with (go_at_call 39; refine (stripe_image.calls k s true _ hi).mono ?_; rintro e w1 ⟨rfl, hd⟩)
  go_ret
  exact ⟨rfl, hd.below⟩
set_option maxHeartbeats 4000000 in
set_option maxRecDepth 100000 in
theorem name_high (s : ByteArray) (i : Int) (k : Nat) (w : World) (hi : stripe_image.f k s = some true) (h : decide (i < 0) = false) (h4 : decide (4096 ≤ i) = true) :
    Calls Tryd.prog 32 #[.string s, .int .i64 i] w fun e w' => e = .returned (.string ⟨#[]⟩) ∧ Below w.heap.size w w' := by
  go_enter Tryd.func32, Tryd.ntmps32
  go_wp2_with (go_at_call 39; refine (stripe_image.calls k s true _ hi).mono ?_; rintro e w1 ⟨rfl, hd⟩)
  go_ret
  exact ⟨rfl, hd.below⟩
set_option maxHeartbeats 4000000 in
set_option maxRecDepth 100000 in
theorem name_good (s : ByteArray) (i : Int) (k : Nat) (w : World) (hT : LT w) (hs : s.size ≤ 1048576) (hi : stripe_image.f k s = some true) (h0 : 0 ≤ i) (h9 : i < 4096) :
    Calls Tryd.prog 32 #[.string s, .int .i64 i] w fun e w' => e = .returned (.string (s ++ (⟨#[46]⟩ : ByteArray) ++ itoaS i)) ∧ Below w.heap.size w w' := by
  have h : decide (i < 0) = false := decide_eq_false (by omega)
  have h4 : decide (4096 ≤ i) = false := decide_eq_false (by omega)
  obtain ⟨r, hr⟩ : ∃ r, itoaS i = r := ⟨_, rfl⟩
  have hrl : r.size ≤ 21 := by
    rw [← hr]
    have := Lib.itoa_length_le i (by omega) (by omega)
    show (Lib.itoa i).toArray.size ≤ 21
    simpa using this
  have hss : (s ++ (⟨#[46]⟩ : ByteArray)).size = s.size + 1 := by rw [ByteArray.size_append]; rfl
  have c7 : s.size + 1 ≤ 9223372036854775807 := by omega
  have c7b1 : decide (s.size + 1 ≤ 9223372036854775807) = true := decide_eq_true c7
  have c7b2 : (9223372036854775807 < s.size + 1) = False := eq_false (Nat.not_lt.2 c7)
  have c9 : (s ++ (⟨#[46]⟩ : ByteArray)).size + r.size ≤ 9223372036854775807 := by omega
  have c9b1 : decide ((s ++ (⟨#[46]⟩ : ByteArray)).size + r.size ≤ 9223372036854775807) = true := decide_eq_true c9
  have c9b2 : (9223372036854775807 < (s ++ (⟨#[46]⟩ : ByteArray)).size + r.size) = False := eq_false (Nat.not_lt.2 c9)
  rw [hr]
  clear hss hrl hs
  have H0 := Aside0.mk h0
  have H9 := Aside0.mk h9
  clear h0 h9
  go_enter Tryd.func32, Tryd.ntmps32
  go_upto_region 3 with (go_at_call 39; refine (stripe_image.calls k s true _ hi).mono ?_; rintro e w1 ⟨rfl, hd⟩)
  have hT1 := LT.below hT hd.below
  have hc := Tryd.strconv_Itoa i (by have := H0.out; omega) (by have := H9.out; omega) w1 hT1.2.2.2
  change Calls Tryd.prog 40 #[.int .i64 i] w1 (fun e w' => e = .returned (.string (itoaS i)) ∧ _) at hc
  rw [hr] at hc
  have hB := Aside0.mk hd.below
  clear hT hT1 hd hi
  go_wp2_with (go_at_call 40; refine hc.mono ?_; rintro e w2 ⟨rfl, q, os, rfl⟩)
  go_ret
  exact ⟨rfl, hB.out.trans (Lib.below_grow _ _ hB.out.size _ _)⟩
set_option maxHeartbeats 4000000 in
set_option maxRecDepth 100000 in
theorem rname_bad (s : ByteArray) (i : Int) (k : Nat) (w : World) (hi : reefref28_image.f k s = some false) :
    Calls Tryd.prog 33 #[.string s, .int .i64 i] w fun e w' => e = .returned (.string ⟨#[]⟩) ∧ Below w.heap.size w w' := by
  go_enter Tryd.func33, Tryd.ntmps33
  go_wp2_with (go_at_call 41; refine (reefref28_image.calls k s false _ hi).mono ?_; rintro e w1 ⟨rfl, hd⟩)
  go_ret
  exact ⟨rfl, hd.below⟩
set_option maxHeartbeats 4000000 in
set_option maxRecDepth 100000 in
theorem rname_low (s : ByteArray) (i : Int) (k : Nat) (w : World) (hi : reefref28_image.f k s = some true) (h : decide (i < 0) = true) :
    Calls Tryd.prog 33 #[.string s, .int .i64 i] w fun e w' => e = .returned (.string ⟨#[]⟩) ∧ Below w.heap.size w w' := by
  go_enter Tryd.func33, Tryd.ntmps33
  go_wp2_with (go_at_call 41; refine (reefref28_image.calls k s true _ hi).mono ?_; rintro e w1 ⟨rfl, hd⟩)
  go_ret
  exact ⟨rfl, hd.below⟩
set_option maxHeartbeats 4000000 in
set_option maxRecDepth 100000 in
theorem rname_high (s : ByteArray) (i : Int) (k : Nat) (w : World) (hi : reefref28_image.f k s = some true) (h : decide (i < 0) = false) (h4 : decide (4096 ≤ i) = true) :
    Calls Tryd.prog 33 #[.string s, .int .i64 i] w fun e w' => e = .returned (.string ⟨#[]⟩) ∧ Below w.heap.size w w' := by
  go_enter Tryd.func33, Tryd.ntmps33
  go_wp2_with (go_at_call 41; refine (reefref28_image.calls k s true _ hi).mono ?_; rintro e w1 ⟨rfl, hd⟩)
  go_ret
  exact ⟨rfl, hd.below⟩
set_option maxHeartbeats 4000000 in
set_option maxRecDepth 100000 in
theorem rname_good (s : ByteArray) (i : Int) (k : Nat) (w : World) (hT : LT w) (hs : s.size ≤ 1048576) (hi : reefref28_image.f k s = some true) (h0 : 0 ≤ i) (h9 : i < 4096) :
    Calls Tryd.prog 33 #[.string s, .int .i64 i] w fun e w' => e = .returned (.string (s ++ (⟨#[46]⟩ : ByteArray) ++ itoaS i)) ∧ Below w.heap.size w w' := by
  have h : decide (i < 0) = false := decide_eq_false (by omega)
  have h4 : decide (4096 ≤ i) = false := decide_eq_false (by omega)
  obtain ⟨r, hr⟩ : ∃ r, itoaS i = r := ⟨_, rfl⟩
  have hrl : r.size ≤ 21 := by
    rw [← hr]
    have := Lib.itoa_length_le i (by omega) (by omega)
    show (Lib.itoa i).toArray.size ≤ 21
    simpa using this
  have hss : (s ++ (⟨#[46]⟩ : ByteArray)).size = s.size + 1 := by rw [ByteArray.size_append]; rfl
  have c7 : s.size + 1 ≤ 9223372036854775807 := by omega
  have c7b1 : decide (s.size + 1 ≤ 9223372036854775807) = true := decide_eq_true c7
  have c7b2 : (9223372036854775807 < s.size + 1) = False := eq_false (Nat.not_lt.2 c7)
  have c9 : (s ++ (⟨#[46]⟩ : ByteArray)).size + r.size ≤ 9223372036854775807 := by omega
  have c9b1 : decide ((s ++ (⟨#[46]⟩ : ByteArray)).size + r.size ≤ 9223372036854775807) = true := decide_eq_true c9
  have c9b2 : (9223372036854775807 < (s ++ (⟨#[46]⟩ : ByteArray)).size + r.size) = False := eq_false (Nat.not_lt.2 c9)
  rw [hr]
  clear hss hrl hs
  have H0 := Aside0.mk h0
  have H9 := Aside0.mk h9
  clear h0 h9
  go_enter Tryd.func33, Tryd.ntmps33
  go_upto_region 3 with (go_at_call 41; refine (reefref28_image.calls k s true _ hi).mono ?_; rintro e w1 ⟨rfl, hd⟩)
  have hT1 := LT.below hT hd.below
  have hc := Tryd.strconv_Itoa i (by have := H0.out; omega) (by have := H9.out; omega) w1 hT1.2.2.2
  change Calls Tryd.prog 40 #[.int .i64 i] w1 (fun e w' => e = .returned (.string (itoaS i)) ∧ _) at hc
  rw [hr] at hc
  have hB := Aside0.mk hd.below
  clear hT hT1 hd hi
  go_wp2_with (go_at_call 40; refine hc.mono ?_; rintro e w2 ⟨rfl, q, os, rfl⟩)
  go_ret
  exact ⟨rfl, hB.out.trans (Lib.below_grow _ _ hB.out.size _ _)⟩
def stripe_NameL.f (a0 : ByteArray) (a1 : Int) : Option ByteArray := if a0.size ≤ 1048576 then some (nameV a0 a1) else none
theorem stripe_NameL.calls (a0 : ByteArray) (a1 : Int) (r : ByteArray) (w : World) (hT : LT w) (h : stripe_NameL.f a0 a1 = some r) :
    Calls Tryd.prog 32 #[.string a0, .int .i64 a1] w fun e w' => e = .returned (.string r) ∧ Below w.heap.size w w' := by
  unfold stripe_NameL.f at h
  by_cases hs : a0.size ≤ 1048576
  case neg => rw [if_neg hs] at h; cases h
  rw [if_pos hs] at h
  obtain rfl := Option.some.inj h
  obtain ⟨k, hk⟩ := (image_ev a0 (by omega)).rounds
  unfold nameV
  by_cases hi : imgV a0 = true
  · rw [hi] at hk
    by_cases h0 : 0 ≤ a1
    · by_cases h9 : a1 < 4096
      · rw [if_pos ⟨hi, h0, h9⟩]
        exact name_good a0 a1 k w hT hs hk h0 h9
      · rw [if_neg (fun q => h9 q.2.2)]
        exact name_high a0 a1 k w hk (decide_eq_false (by omega)) (decide_eq_true (by omega))
    · rw [if_neg (fun q => h0 q.2.1)]
      exact name_low a0 a1 k w hk (decide_eq_true (by omega))
  · rw [if_neg (fun q => hi q.1)]
    rw [Bool.eq_false_iff.2 hi] at hk
    exact name_bad a0 a1 k w hk
def reefref28_NameL.f (a0 : ByteArray) (a1 : Int) : Option ByteArray := if a0.size ≤ 1048576 then some (nameV a0 a1) else none
theorem reefref28_NameL.calls (a0 : ByteArray) (a1 : Int) (r : ByteArray) (w : World) (hT : LT w) (h : reefref28_NameL.f a0 a1 = some r) :
    Calls Tryd.prog 33 #[.string a0, .int .i64 a1] w fun e w' => e = .returned (.string r) ∧ Below w.heap.size w w' := by
  unfold reefref28_NameL.f at h
  by_cases hs : a0.size ≤ 1048576
  case neg => rw [if_neg hs] at h; cases h
  rw [if_pos hs] at h
  obtain rfl := Option.some.inj h
  obtain ⟨k, hk⟩ := (rimage_ev a0 (by omega)).rounds
  unfold nameV
  by_cases hi : imgV a0 = true
  · rw [hi] at hk
    by_cases h0 : 0 ≤ a1
    · by_cases h9 : a1 < 4096
      · rw [if_pos ⟨hi, h0, h9⟩]
        exact rname_good a0 a1 k w hT hs hk h0 h9
      · rw [if_neg (fun q => h9 q.2.2)]
        exact rname_high a0 a1 k w hk (decide_eq_false (by omega)) (decide_eq_true (by omega))
    · rw [if_neg (fun q => h0 q.2.1)]
      exact rname_low a0 a1 k w hk (decide_eq_true (by omega))
  · rw [if_neg (fun q => hi q.1)]
    rw [Bool.eq_false_iff.2 hi] at hk
    exact rname_bad a0 a1 k w hk
/-! ## Parse -/
theorem cut_size (s : ByteArray) (hs : s.size ≤ 1048576) : (⟨(Lib.cut s.data.toList [46]).1.toArray⟩ : ByteArray).size ≤ 1048576 ∧ (⟨(Lib.cut s.data.toList [46]).2.1.toArray⟩ : ByteArray).size ≤ 1048576 := by
  have hl : s.data.toList.length = s.size := data_length s
  rw [cut_dot]
  have h1 : ∀ l : List UInt8, (⟨l.toArray⟩ : ByteArray).size = l.length := fun l => by show l.toArray.size = _; simp
  split
  · rw [h1, h1, List.length_take, List.length_drop]; omega
  · rw [h1, h1]; simp only [List.length_nil]; omega
theorem cut_ne (s : ByteArray) (h : (Lib.cut s.data.toList [46]).2.2 = true) : (s.toList == ([] : List UInt8)) = false := by
  rw [cut_dot] at h
  by_cases hd : dotAt s.data.toList < s.data.toList.length
  · rw [ByteArray.toList_eq, beq_eq_false_iff_ne]
    intro q
    rw [q] at hd; exact absurd hd (Nat.not_lt_zero _)
  · rw [if_neg hd] at h; cases h
set_option maxHeartbeats 4000000 in
set_option maxRecDepth 100000 in
theorem parse_err (s : ByteArray) (hs : s.size ≤ 1048576) (w : World) (hT : LT w) (he : Lib.atoiAll (Lib.cut s.data.toList [46]).2.1 = .«syntax» ∨ Lib.atoiAll (Lib.cut s.data.toList [46]).2.1 = .range) :
    Calls Tryd.prog 30 #[.string s] w fun e w' => e = .returned (.tuple #[.string ⟨#[]⟩, .int .i64 0, .bool false]) ∧ Below w.heap.size w w' := by
  obtain ⟨⟨m, hm⟩, ⟨e1, v1, q1⟩, ⟨e2, v2, q2⟩, ht⟩ := hT
  obtain ⟨c1, c2⟩ := cut_size s hs
  have hcut := Tryd.strings_Cut s ⟨#[46]⟩ m w (by omega) hm
  change Calls Tryd.prog 37 #[.string s, .string ⟨#[46]⟩] w (fun e w' => e = .returned (.tuple #[.string ⟨(Lib.cut s.data.toList [46]).1.toArray⟩, .string ⟨(Lib.cut s.data.toList [46]).2.1.toArray⟩, .bool (Lib.cut s.data.toList [46]).2.2]) ∧ _) at hcut
  obtain ⟨A, hA⟩ : ∃ A, (⟨(Lib.cut s.data.toList [46]).1.toArray⟩ : ByteArray) = A := ⟨_, rfl⟩
  obtain ⟨B, hB⟩ : ∃ B, (⟨(Lib.cut s.data.toList [46]).2.1.toArray⟩ : ByteArray) = B := ⟨_, rfl⟩
  have hBl : B.data.toList = (Lib.cut s.data.toList [46]).2.1 := by rw [← hB]
  rw [hA, hB] at hcut
  rw [← hBl] at he
  rw [hB] at c2
  generalize (Lib.cut s.data.toList [46]).2.2 = ok at hcut
  have hat : ∀ n : Nat, ∃ N : Nat → Prop, True := fun _ => ⟨fun _ => True, trivial⟩
  have hatoi : ∀ n : Nat, Calls Tryd.prog 38 #[.string B] (w.drewN n) fun e w' => ∃ (x : Int) (N : Nat) (t : TypeId), e = .returned (.tuple #[.int .i64 x, .iface t (.pointer (some ⟨N, 0, none⟩))]) ∧ Below w.heap.size w w' := by
    intro n
    rcases he with he | he
    · refine (Tryd.strconv_Atoi_syntax B (by omega) he e1 (w.drewN n) v1 q1).mono ?_
      rintro e w' ⟨N, rfl, _, _, hb⟩
      exact ⟨_, N, _, rfl, (pw_below_drewN (Below.refl _ _) n).trans hb⟩
    · refine (Tryd.strconv_Atoi_range B (by omega) he e2 (w.drewN n) v2 q2).mono ?_
      rintro e w' ⟨N, rfl, _, _, hb⟩
      exact ⟨_, N, _, rfl, (pw_below_drewN (Below.refl _ _) n).trans hb⟩
  clear hat hm v1 v2 q1 q2 ht he hs c1 c2 hA hB hBl
  cases ok with
  | false =>
    go_enter Tryd.func30, Tryd.ntmps30
    go_wp2_with (first | (go_at_call 37; refine hcut.mono ?_; rintro e w1 ⟨rfl, n, rfl⟩) | (go_at_call 38; refine (hatoi _).mono ?_; rintro e w2 ⟨x, N, t, rfl, hb⟩))
    go_ret3
    exact ⟨rfl, hb⟩
  | true =>
    go_enter Tryd.func30, Tryd.ntmps30
    go_wp2_with (first | (go_at_call 37; refine hcut.mono ?_; rintro e w1 ⟨rfl, n, rfl⟩) | (go_at_call 38; refine (hatoi _).mono ?_; rintro e w2 ⟨x, N, t, rfl, hb⟩))
    go_ret3
    exact ⟨rfl, hb⟩
def atoi_ok_world (w : World) (w' : World) : Prop := w' = w ∨ ∃ t, w' = Lib.bytesWorld w 5 t
set_option maxHeartbeats 4000000 in
set_option maxRecDepth 100000 in
theorem parse_ok (s : ByteArray) (hs : s.size ≤ 1048576) (w : World) (hT : LT w) (v : Int) (he : Lib.atoiAll (Lib.cut s.data.toList [46]).2.1 = .ok v) :
    Calls Tryd.prog 30 #[.string s] w fun e w' => (∃ a i b, parseV s = (a, i, b) ∧ e = .returned (.tuple #[.string a, .int .i64 i, .bool b])) ∧ Below w.heap.size w w' := by
  have hpv : parseV s = if (Lib.cut s.data.toList [46]).2.2 = true ∧ nameV ⟨(Lib.cut s.data.toList [46]).1.toArray⟩ v = s then (⟨(Lib.cut s.data.toList [46]).1.toArray⟩, v, true) else (⟨#[]⟩, 0, false) := by
    unfold parseV; rw [he]
  have hT0 := Aside0.mk hT
  obtain ⟨⟨m, hm⟩, _⟩ := hT
  obtain ⟨c1, c2⟩ := cut_size s hs
  have hne := cut_ne s
  have hcut := Tryd.strings_Cut s ⟨#[46]⟩ m w (by omega) hm
  change Calls Tryd.prog 37 #[.string s, .string ⟨#[46]⟩] w (fun e w' => e = .returned (.tuple #[.string ⟨(Lib.cut s.data.toList [46]).1.toArray⟩, .string ⟨(Lib.cut s.data.toList [46]).2.1.toArray⟩, .bool (Lib.cut s.data.toList [46]).2.2]) ∧ _) at hcut
  obtain ⟨A, hA⟩ : ∃ A, (⟨(Lib.cut s.data.toList [46]).1.toArray⟩ : ByteArray) = A := ⟨_, rfl⟩
  obtain ⟨B, hB⟩ : ∃ B, (⟨(Lib.cut s.data.toList [46]).2.1.toArray⟩ : ByteArray) = B := ⟨_, rfl⟩
  have hBl : B.data.toList = (Lib.cut s.data.toList [46]).2.1 := by rw [← hB]
  rw [hA, hB] at hcut
  rw [hA] at hpv c1
  rw [← hBl] at he
  rw [hB] at c2
  generalize (Lib.cut s.data.toList [46]).2.2 = ok at hcut hpv hne
  have hatoi : ∀ n : Nat, Calls Tryd.prog 38 #[.string B] (w.drewN n) fun e w' => e = .returned (.tuple #[.int .i64 v, .nilIface]) ∧ Below w.heap.size w w' := by
    intro n
    refine (Tryd.strconv_Atoi_ok B (by omega) v he (w.drewN n)).mono ?_
    rintro e w' ⟨rfl, hw⟩
    refine ⟨rfl, (pw_below_drewN (Below.refl _ _) n).trans ?_⟩
    rcases hw with rfl | ⟨t, rfl⟩
    · exact Below.refl _ _
    · exact (show Below (w.drewN n).heap.size (w.drewN n) (Lib.bytesWorld (w.drewN n) 5 t) from Lib.bytesWorld_below _ _ _)
  clear hm he hs c2 hA hB hBl
  cases ok with
  | false =>
    rw [if_neg (fun q => Bool.false_ne_true q.1)] at hpv
    have HPV := Aside0.mk hpv
    clear hpv hne
    go_enter Tryd.func30, Tryd.ntmps30
    go_wp2_with (first | (go_at_call 37; refine hcut.mono ?_; rintro e w1 ⟨rfl, n, rfl⟩) | (go_at_call 38; refine (hatoi _).mono ?_; rintro e w2 ⟨rfl, hb⟩))
    go_ret3
    exact ⟨⟨_, _, _, HPV.out, rfl⟩, hb⟩
  | true =>
    have hn := hne rfl
    obtain ⟨r, hr⟩ : ∃ r, nameV A v = r := ⟨_, rfl⟩
    rw [hr] at hpv
    have hnm : ∀ W, LT W → Calls Tryd.prog 32 #[.string A, .int .i64 v] W fun e w' => e = .returned (.string r) ∧ Below W.heap.size W w' := fun W hW => stripe_NameL.calls A v r W hW (by unfold stripe_NameL.f; rw [if_pos c1, hr])
    clear hr hne c1
    by_cases hq : r = s
    · rw [if_pos ⟨rfl, hq⟩] at hpv
      have HPV := Aside0.mk hpv
      have hcmp : (r.toList == s.toList) = true := by rw [hq]; exact beq_self_eq_true _
      clear hpv hq
      go_enter Tryd.func30, Tryd.ntmps30
      go_wp2_with (first | (go_at_call 37; refine hcut.mono ?_; rintro e w1 ⟨rfl, n, rfl⟩) | (go_at_call 38; refine (hatoi _).mono ?_; rintro e w2 ⟨rfl, hb⟩; have HBB := Aside0.mk hb; clear hb) | (go_at_call 32; refine (hnm _ (LT.below hT0.out HBB.out)).mono ?_; rintro e w3 ⟨rfl, hb3⟩; have HB3 := Aside0.mk (HBB.out.trans (hb3.mono HBB.out.size)); clear hb3))
      go_ret3
      exact ⟨⟨_, _, _, HPV.out, rfl⟩, HB3.out⟩
    · rw [if_neg (fun q => hq q.2)] at hpv
      have HPV := Aside0.mk hpv
      have hcmp : (r.toList == s.toList) = false := by
        rw [beq_eq_false_iff_ne]; intro q
        rw [ByteArray.toList_eq, ByteArray.toList_eq] at q
        apply hq
        obtain ⟨⟨x⟩⟩ := r; obtain ⟨⟨y⟩⟩ := s
        simp only at q
        rw [q]
      clear hpv hq
      go_enter Tryd.func30, Tryd.ntmps30
      go_wp2_with (first | (go_at_call 37; refine hcut.mono ?_; rintro e w1 ⟨rfl, n, rfl⟩) | (go_at_call 38; refine (hatoi _).mono ?_; rintro e w2 ⟨rfl, hb⟩; have HBB := Aside0.mk hb; clear hb) | (go_at_call 32; refine (hnm _ (LT.below hT0.out HBB.out)).mono ?_; rintro e w3 ⟨rfl, hb3⟩; have HB3 := Aside0.mk (HBB.out.trans (hb3.mono HBB.out.size)); clear hb3))
      go_ret3
      exact ⟨⟨_, _, _, HPV.out, rfl⟩, HB3.out⟩
def stripe_ParseL.f (a0 : ByteArray) : Option (ByteArray × Int × Bool) := if a0.size ≤ 1048576 then some (parseV a0) else none
theorem stripe_ParseL.calls (a0 : ByteArray) (r1 : ByteArray) (r2 : Int) (r3 : Bool) (w : World) (hT : LT w) (h : stripe_ParseL.f a0 = some (r1, r2, r3)) :
    Calls Tryd.prog 30 #[.string a0] w fun e w' => e = .returned (.tuple #[.string r1, .int .i64 r2, .bool r3]) ∧ Below w.heap.size w w' := by
  unfold stripe_ParseL.f at h
  by_cases hs : a0.size ≤ 1048576
  case neg => rw [if_neg hs] at h; cases h
  rw [if_pos hs] at h
  have hp := Option.some.inj h
  cases he : Lib.atoiAll (Lib.cut a0.data.toList [46]).2.1 with
  | ok v =>
    refine (parse_ok a0 hs w hT v he).mono ?_
    rintro e w' ⟨⟨a, i, b, hq, rfl⟩, hb⟩
    rw [hp] at hq
    simp only [Prod.mk.injEq] at hq
    obtain ⟨rfl, rfl, rfl⟩ := hq
    exact ⟨rfl, hb⟩
  | «syntax» =>
    have : parseV a0 = (⟨#[]⟩, 0, false) := by unfold parseV; rw [he]
    rw [this] at hp
    simp only [Prod.mk.injEq] at hp
    obtain ⟨rfl, rfl, rfl⟩ := hp
    exact parse_err a0 hs w hT (.inl he)
  | range =>
    have : parseV a0 = (⟨#[]⟩, 0, false) := by unfold parseV; rw [he]
    rw [this] at hp
    simp only [Prod.mk.injEq] at hp
    obtain ⟨rfl, rfl, rfl⟩ := hp
    exact parse_err a0 hs w hT (.inr he)
end Go.Proofs.YteajaofcgcgodaaDoor.P

-- left of the seat's texts by prune.py, a program of this session
import Derived.Test.YtcheinjlgojepaaDoorP0
import Derived.Test.YtcheinjlgojepaaDoorP19
import Derived.Test.YtcheinjlgojepaaDoorP20
import Derived.WalkMore
import Derived.Test.YtcheinjlgojepaaDoorField
namespace Go.Proofs.YtcheinjlgojepaaDoor.P
open Go.RowKit Go.Proofs.YtcheinjlgojepaaDoorW.PrintWords Go.Proofs.YtcheinjlgojepaaDoorW.PrintLast Go.Proofs.YtcheinjlgojepaaDoorW.PrintMore
attribute [local go_sem] max2_int min2_int max_two min_two max_three min_three max_four min_four   -- for this text's walks alone
set_option linter.unusedVariables false
set_option linter.unusedSimpArgs false
def code_cursor_keyNumber.l0 : Nat → Int → List Int → Int → Int → List Int → Int → Option (Int × Bool × Int)
 | 0, _, _, _, _, _, _ => none
 | k + 1, x4, x23, x24, x25, x1000, x1001 => if x25 < x24 then (if 0 ≤ x25 then (if x25 < (x23.length : Int) then (code_cursor_keyNumber.l0 k (Go.bits .or .u64 (IntKind.u64.wrap (x4 * 256)) (IntKind.u64.wrap (rd x23 x25))) x23 x24 (wrap64 (x25 + 1)) x1000 x1001) else (none)) else (none)) else (some (x4, true, wrap64 (x1001 + 8)))
def code_cursor_keyNumber.f (k : Nat) (s0_0 : List Int) (s0_1 : Int) : Option (Int × Bool × Int) := if 0 ≤ s0_1 ∧ s0_1 ≤ (s0_0.length : Int) then (code_cursor_left.f s0_0 s0_1 8).bind fun bt347 => (if bt347.1 = true then (code_cursor_keyNumber.l0 k 0 ((s0_0.take (s0_1 + 8).toNat).drop s0_1.toNat) (((s0_0.take (s0_1 + 8).toNat).drop s0_1.toNat).length : Int) 0 s0_0 bt347.2) else (some (0, false, bt347.2))) else none
theorem code_cursor_keyNumber.mono_l : ∀ k, (∀ y0 y1 y2 y3 y4 y5, LeO (code_cursor_keyNumber.l0 k y0 y1 y2 y3 y4 y5) (code_cursor_keyNumber.l0 (k + 1) y0 y1 y2 y3 y4 y5))
 | 0 => fun _ _ _ _ _ _ r h => by simp [code_cursor_keyNumber.l0] at h
 | k + 1 => by
  have ih0 := code_cursor_keyNumber.mono_l k
  ·intro y0 y1 y2 y3 y4 y5
   unfold code_cursor_keyNumber.l0
   repeat' first
   | (with_reducible exact ih0 _ _ _ _ _ _)
   | (with_reducible exact LeO.refl _)
   | (with_reducible exact LeO.none _)
   | (with_reducible refine LeO.ite ?_ ?_)
   | (with_reducible refine LeO.bind ?_ (fun _ => ?_))
   | exact ih0 _ _ _ _ _ _
   | exact LeO.none _
   | refine LeO.ite ?_ ?_
   | refine LeO.bind ?_ (fun _ => ?_)
theorem code_cursor_keyNumber.mono : ∀ a0 a1 k, LeO (code_cursor_keyNumber.f k a0 a1) (code_cursor_keyNumber.f (k + 1) a0 a1) := by
 intro a0 a1 k
 have ih0 := code_cursor_keyNumber.mono_l k
 unfold code_cursor_keyNumber.f
 repeat' first
   | (with_reducible exact ih0 _ _ _ _ _ _)
   | (with_reducible exact LeO.refl _)
   | (with_reducible exact LeO.none _)
   | (with_reducible refine LeO.ite ?_ ?_)
   | (with_reducible refine LeO.bind ?_ (fun _ => ?_))
   | exact ih0 _ _ _ _ _ _
   | exact LeO.none _
   | refine LeO.ite ?_ ?_
   | refine LeO.bind ?_ (fun _ => ?_)
set_option maxHeartbeats 8000000 in
set_option maxRecDepth 100000 in
theorem code_cursor_keyNumber.calls (k : Nat) (g : Nat) (s0_0 : List Int) (s0_1 : Int) (r1 : Int) (r2 : Bool) (r3 : Int) (w0 w : World) (hI : IsS60 w0 w g s0_0 s0_1) (hB : Below w0.heap.size w0 w) (h : code_cursor_keyNumber.f k s0_0 s0_1 = some (r1, r2, r3)) :
  Calls Tryd.prog 49 #[.pointer (some ⟨g, 0, none⟩)] w fun e w' => e = .returned (.tuple #[.int .u64 r1, .bool r2]) ∧ IsS60 w0 w' g s0_0 r3 ∧ Below w0.heap.size w0 w' ∧ KeepBut w w' g none := by
 unfold code_cursor_keyNumber.f at h
 by_cases hgd : 0 ≤ s0_1 ∧ s0_1 ≤ (s0_0.length : Int)
 case neg => rw [if_neg hgd] at h; cases h
 rw [if_pos hgd] at h
 obtain ⟨l1, hl1⟩ : ∃ l1, l1 = ((s0_0.take (s0_1 + 8).toNat).drop s0_1.toNat) := ⟨_, rfl⟩
 rw [← hl1] at h
 have HL1 := Aside0.mk hl1
 clear hl1
 have HGD := Aside0.mk hgd
 clear hgd
 have HBW := Aside0.mk hB
 have HI0 := Aside0.mk hI
 have HK := Aside0.mk (KeepBut.refl w g none)
 have HL := Aside0.mk hB.size
 clear hI
 have HW0 := Aside0.mk hB.size
 have HB := Aside0.mk hB
 clear hB
 have H : ((code_cursor_left.f s0_0 s0_1 8).bind fun bt347 => (if bt347.1 = true then (code_cursor_keyNumber.l0 k 0 l1 (l1.length : Int) 0 s0_0 bt347.2) else (some (0, false, bt347.2)))) = some (r1, r2, r3) := h
 clear h
 replace H := Option.bind_eq_some_iff.mp H
 obtain ⟨⟨t347, t348⟩, A30, H⟩ := H
 replace H : (if t347 = true then (code_cursor_keyNumber.l0 k 0 l1 (l1.length : Int) 0 s0_0 t348) else (some (0, false, t348))) = some (r1, r2, r3) := H
 have A3 := Aside0.mk A30
 clear A30
 by_cases c4 : t347 = true
 ·subst c4
  have H1 : (code_cursor_keyNumber.l0 k 0 l1 (l1.length : Int) 0 s0_0 t348) = some (r1, r2, r3) := by rw [if_pos rfl] at H; exact H
  clear H
  have H := H1
  clear H1
  have H' := Aside0.mk H
  clear H
  go_enter Tryd.func49, Tryd.ntmps49
  go_upto_region 4 with (first | (go_at_call 58; (with_reducible refine (code_cursor_left.calls g s0_0 s0_1 8 true t348 w0 _ ?side1 ?side2 A3.out).mono ?_); (case side1 => repeat (first | (with_reducible first | exact HI0.out | apply IsS60.alloc | apply IsS60.drewN | apply IsS60.drew | apply IsS60.set_1) | exact HI0.out)); (case side2 => repeat (first | (with_reducible first | exact HB.out | apply below_alloc | apply pw_below_drewN | apply below_drew1 | refine below_set ?_ (IsS60.ge HI0.out)) | exact HB.out)); rintro e w5 ⟨rfl, hi, hb, hk⟩; have n0_ := Aside0.mk (KeepBut.trans (by repeat (first | (with_reducible first | exact HK.out | apply KeepBut.set_ | apply keep_drewN | apply keep_drew | apply keep_alloc) | exact HK.out)) hk (.inl rfl)); have n1_ := Aside0.mk (hb); have n2_ := Aside0.mk (hi); clear HK; clear HB; clear HI0; have HK := n0_; have HB := n1_; have HI0 := n2_; clear n0_ n1_ n2_; (try clear hb); (try clear hb2); (try clear hk); (try clear hi); obtain ⟨ASz6_0, cSz6_0, HGz6, hgz6, HSz6_0, HCz6_0⟩ := HI0.out; have hcz6_0 := cellS60_0 HGz6; have hcz6_1 := cellS60_1 HGz6; have hfz6_1 := blk_frozen HGz6 1; clear HGz6))
  have hA3 := A3.out
  simp only [code_cursor_left.f, Option.some.injEq, Prod.mk.injEq, decide_eq_true_eq, ge_iff_le] at hA3
  obtain ⟨hle, ht348⟩ := hA3
  subst ht348
  have hlen := HSz6_0.2.1
  have hgd0 := HGD.out.1
  have hgd1 := HGD.out.2
  have hroom8 : s0_1 + 8 ≤ (s0_0.length : Int) := by unfold wrap64 at hle; omega
  have hw8 : wrap64 (s0_1 + 8) = s0_1 + 8 := by unfold wrap64; omega
  clear hle
  have hll : l1.length = 8 := by rw [HL1.out, List.length_drop, List.length_take]; omega
  obtain ⟨A1, hA1⟩ : ∃ A1 : Option Addr, A1 = (if cSz6_0 = s0_1.toNat then ASz6_0 else (ASz6_0 : Option Addr).map (·.add (s0_1.toNat * 1))) := ⟨_, rfl⟩
  obtain ⟨c1, hc1⟩ : ∃ c1, c1 = cSz6_0 - s0_1.toNat := ⟨_, rfl⟩
  obtain ⟨i0, hi0, _, hsz0, _⟩ := info_parts info5
  have hcut := cut_mid (P := Tryd.prog) 31 5 .i64 .i64 Tryd.underlying31 hi0 1 hsz0 ASz6_0 s0_0.length cSz6_0 s0_1 (wrap64 (s0_1 + 8)) hgd0 (by rw [hw8]; omega) (by rw [hw8]; exact hroom8) HCz6_0
  have hr1 : Kd.C (Kd.int .u8) w0 A1 l1.length l1 := by
   have := Kd.C_mid (lo := s0_1.toNat) (hi := (s0_1 + 8).toNat) HSz6_0 (by omega) (by omega) HCz6_0
   rw [← HL1.out] at this
   rw [hA1]; exact this
  have HF1 : Aside0 (∀ ad, A1 = some ad → 0 < l1.length → ad.block ≠ g) := by
   refine ⟨?_⟩
   intro ad e hp
   obtain ⟨ad', e', hc'⟩ := hr1.2.2 hp
   obtain rfl : ad' = ad := Option.some.inj (e'.symm.trans e)
   obtain ⟨cs, h1, h2, h3⟩ := hc' 0 (l1[0]'hp) (List.getElem?_eq_getElem hp)
   have hcl := World.block_lt_of_cell? w0 _ (h3 0 (cs[0]'(by rw [h1]; decide)) (List.getElem?_eq_getElem (by rw [h1]; decide)))
   have hbl : ∀ n : Nat, (ad'.add n).block = ad'.block := fun n => by unfold Addr.add; split <;> rfl
   rw [hbl] at hcl
   intro e9
   have := hgz6
   omega
  have HR1 := Aside0.mk (Kd.C_below hr1 HBW.out)
  have HC1 := Aside0.mk (show l1.length ≤ c1 by rw [hll, hc1]; have := HCz6_0; omega)
  have hy8 : (s0_1 + 8).toNat - s0_1.toNat = l1.length := by rw [hll]; omega
  rw [hw8, hy8, ← hA1, ← hc1] at hcut
  clear hr1 hi0 hsz0 HSz6_0 hgz6 HCz6_0 hy8 hA1 hc1 hll hgd0 hgd1 hroom8 hlen
  have HCUT := Aside0.mk hcut
  clear hcut
  go_cut [4, 23, 24, 25] (fun v4 v23 v24 v25 wc => v4 = .int .u64 0 ∧ v23 = .slice A1 l1.length c1 ∧ v24 = .int .i64 (l1.length : Int) ∧ v25 = .int .i64 0 ∧ Aside0 (IsS60 w0 wc g s0_0 s0_1) ∧ Aside0 (KeepBut w wc g none) ∧ Aside0 (Below w0.heap.size w0 wc))
  case first =>
   have hcut := HCUT.out
   go_wp2
   repeat (go_quiet (fail); try go_wp2)
   go_meet
   case rel => exact ⟨rfl, rfl, rfl, rfl, ⟨by repeat (first | (with_reducible first | exact HI0.out | apply IsS60.alloc | apply IsS60.drewN | apply IsS60.drew | apply IsS60.set_1) | exact HI0.out)⟩, ⟨by repeat (first | (with_reducible first | exact HK.out | apply KeepBut.set_ | apply keep_drewN | apply keep_drew | apply keep_alloc) | exact HK.out)⟩, ⟨by repeat (first | (with_reducible first | exact HB.out | apply below_alloc | apply pw_below_drewN | apply below_drew1 | refine below_set ?_ (IsS60.ge HI0.out)) | exact HB.out)⟩⟩
  case rest =>
  clear HCUT
  clear HI0 HK HB hw8
  obtain ⟨rfl, rfl, rfl, rfl, HI0, HK, HB⟩ := hcut
  have hf1 := HF1.out
  go_wp2
  go_loopg [4, 25] k (fun kq v4 v25 w' => ∃ (x4_1 : Int) (x25_1 : Int), v4 = .int .u64 x4_1 ∧ v25 = .int .i64 x25_1 ∧ Aside0 (code_cursor_keyNumber.l0 kq x4_1 l1 (l1.length : Int) x25_1 s0_0 s0_1 = some (r1, r2, r3)) ∧ Aside0 (kq ≤ k) ∧ Aside0 (IsS60 w0 w' g s0_0 s0_1) ∧ Aside0 (KeepBut w w' g none) ∧ Aside0 (Below w0.heap.size w0 w'))
  case atStart => exact ⟨(0), (0), (by first | rfl | (simp; done) | (simp [*]; done)), (by first | rfl | (simp; done) | (simp [*]; done)), H', ⟨Nat.le_refl _⟩, ⟨by repeat (first | (with_reducible first | exact HI0.out | apply IsS60.alloc | apply IsS60.drewN | apply IsS60.drew | apply IsS60.set_1) | exact HI0.out)⟩, ⟨by repeat (first | (with_reducible first | exact HK.out | apply KeepBut.set_ | apply keep_drewN | apply keep_drew | apply keep_alloc) | exact HK.out)⟩, ⟨by repeat (first | (with_reducible first | exact HB.out | apply below_alloc | apply pw_below_drewN | apply below_drew1 | refine below_set ?_ (IsS60.ge HI0.out)) | exact HB.out)⟩⟩
  case round =>
   clear H'
   try clear c1
   try clear p2
   try clear c4
   try clear hcz6_0 hcz6_1
   try clear hfz6_1
   obtain ⟨x4_1, x25_1, rfl, rfl, HA, HK1, HI0, HK, HB⟩ := hrel
   cases gk with
   | zero => exact absurd HA.out (by simp [code_cursor_keyNumber.l0])
   | succ k1 =>
    have H := HA.out
    clear HA
    simp only [code_cursor_keyNumber.l0] at H
    by_cases c7 : x25_1 < (l1.length : Int)
    ·rw [if_pos c7] at H
     have c7b0 : decide (x25_1 < (l1.length : Int)) = true := decide_eq_true c7
     clear c7
     by_cases c8 : 0 ≤ x25_1
     ·rw [if_pos c8] at H
      have c8b0 : decide (0 ≤ x25_1) = true := decide_eq_true c8
      clear c8
      by_cases c9 : x25_1 < (l1.length : Int)
      ·rw [if_pos c9] at H
       have c9b0 : decide (x25_1 < (l1.length : Int)) = true := decide_eq_true c9
       clear c9
       have H' := Aside0.mk H
       clear H
       have p349 : 0 ≤ (x25_1 : Int) := of_decide_eq_true (by first | (with_reducible assumption) | assumption)
       have q349 : x25_1 < (l1.length : Int) := of_decide_eq_true (by first | (with_reducible assumption) | assumption)
       obtain ⟨ad349, e349, hx349_0⟩ := Kd.at_int HR1.out x25_1 p349 q349
       cases e349
       replace hx349_0 := keep_cell HK.out hx349_0 (by first | (rw [add_block]; exact hf1 _ rfl (by omega)) | exact hf1 _ rfl (by omega) | exact hf1 ad349 rfl (by omega))
       replace p349 := eq_true p349
       replace q349 := eq_true q349
       go_wp2
       repeat (go_quiet (fail); try go_wp2)
       go_roundg k1
       case measure => have := HK1.out; omega
       case rel => exact ⟨(Go.bits .or .u64 (IntKind.u64.wrap (x4_1 * 256)) (IntKind.u64.wrap (rd l1 x25_1))), (wrap64 (x25_1 + 1)), (by first | rfl | (simp; done) | (simp [*]; done)), (by first | rfl | (simp; done) | (simp [*]; done)), H', ⟨by have := HK1.out; omega⟩, ⟨by repeat (first | (with_reducible first | exact HI0.out | apply IsS60.alloc | apply IsS60.drewN | apply IsS60.drew | apply IsS60.set_1) | exact HI0.out)⟩, ⟨by repeat (first | (with_reducible first | exact HK.out | apply KeepBut.set_ | apply keep_drewN | apply keep_drew | apply keep_alloc) | exact HK.out)⟩, ⟨by repeat (first | (with_reducible first | exact HB.out | apply below_alloc | apply pw_below_drewN | apply below_drew1 | refine below_set ?_ (IsS60.ge HI0.out)) | exact HB.out)⟩⟩
      ·rw [if_neg c9] at H
       exact absurd H (by simp)
     ·rw [if_neg c8] at H
      exact absurd H (by simp)
    ·rw [if_neg c7] at H
     have c7b0 : decide (x25_1 < (l1.length : Int)) = false := decide_eq_false c7
     clear c7
     simp only [Option.some.injEq, Prod.mk.injEq] at H
     obtain ⟨rfl, rfl, rfl⟩ := H
     obtain ⟨ASz10_0, cSz10_0, HGz10, hgz10, HSz10_0, HCz10_0⟩ := HI0.out
     have hcz10_0 := cellS60_0 HGz10
     have hcz10_1 := cellS60_1 HGz10
     have hfz10_1 := blk_frozen HGz10 1
     clear HGz10 hgz10
     go_wp2
     repeat (go_quiet (fail); try go_wp2)
     go_ret2
     exact ⟨by first | rfl | (simp [errW_none, errW_some] <;> rfl) | (simp [*, errW_none, errW_some] <;> rfl), by repeat (first | (with_reducible first | exact HI0.out | apply IsS60.alloc | apply IsS60.drewN | apply IsS60.drew | apply IsS60.set_1) | exact HI0.out), by repeat (first | (with_reducible first | exact HB.out | apply below_alloc | apply pw_below_drewN | apply below_drew1 | refine below_set ?_ (IsS60.ge HI0.out)) | exact HB.out), by repeat (first | (with_reducible first | exact HK.out | apply KeepBut.set_ | apply keep_drewN | apply keep_drew | apply keep_alloc) | exact HK.out)⟩
 ·replace c4 := Bool.eq_false_iff.mpr c4
  subst c4
  have H1 : (some (0, false, t348)) = some (r1, r2, r3) := by rw [if_neg (show ¬ (false = true) by decide)] at H; exact H
  clear H
  have H := H1
  clear H1
  simp only [Option.some.injEq, Prod.mk.injEq] at H
  obtain ⟨rfl, rfl, rfl⟩ := H
  go_enter Tryd.func49, Tryd.ntmps49
  go_wp2_with (first | (go_at_call 58; (with_reducible refine (code_cursor_left.calls g s0_0 s0_1 8 false t348 w0 _ ?side1 ?side2 A3.out).mono ?_); (case side1 => repeat (first | (with_reducible first | exact HI0.out | apply IsS60.alloc | apply IsS60.drewN | apply IsS60.drew | apply IsS60.set_1) | exact HI0.out)); (case side2 => repeat (first | (with_reducible first | exact HB.out | apply below_alloc | apply pw_below_drewN | apply below_drew1 | refine below_set ?_ (IsS60.ge HI0.out)) | exact HB.out)); rintro e w11 ⟨rfl, hi, hb, hk⟩; have n0_ := Aside0.mk (KeepBut.trans (by repeat (first | (with_reducible first | exact HK.out | apply KeepBut.set_ | apply keep_drewN | apply keep_drew | apply keep_alloc) | exact HK.out)) hk (.inl rfl)); have n1_ := Aside0.mk (hb); have n2_ := Aside0.mk (hi); clear HK; clear HB; clear HI0; have HK := n0_; have HB := n1_; have HI0 := n2_; clear n0_ n1_ n2_; (try clear hb); (try clear hb2); (try clear hk); (try clear hi)))
  repeat (go_quiet (first | (go_at_call 58; (with_reducible refine (code_cursor_left.calls g s0_0 s0_1 8 false t348 w0 _ ?side1 ?side2 A3.out).mono ?_); (case side1 => repeat (first | (with_reducible first | exact HI0.out | apply IsS60.alloc | apply IsS60.drewN | apply IsS60.drew | apply IsS60.set_1) | exact HI0.out)); (case side2 => repeat (first | (with_reducible first | exact HB.out | apply below_alloc | apply pw_below_drewN | apply below_drew1 | refine below_set ?_ (IsS60.ge HI0.out)) | exact HB.out)); rintro e w11 ⟨rfl, hi, hb, hk⟩; have n0_ := Aside0.mk (KeepBut.trans (by repeat (first | (with_reducible first | exact HK.out | apply KeepBut.set_ | apply keep_drewN | apply keep_drew | apply keep_alloc) | exact HK.out)) hk (.inl rfl)); have n1_ := Aside0.mk (hb); have n2_ := Aside0.mk (hi); clear HK; clear HB; clear HI0; have HK := n0_; have HB := n1_; have HI0 := n2_; clear n0_ n1_ n2_; (try clear hb); (try clear hb2); (try clear hk); (try clear hi))); try go_wp2_with (first | (go_at_call 58; (with_reducible refine (code_cursor_left.calls g s0_0 s0_1 8 false t348 w0 _ ?side1 ?side2 A3.out).mono ?_); (case side1 => repeat (first | (with_reducible first | exact HI0.out | apply IsS60.alloc | apply IsS60.drewN | apply IsS60.drew | apply IsS60.set_1) | exact HI0.out)); (case side2 => repeat (first | (with_reducible first | exact HB.out | apply below_alloc | apply pw_below_drewN | apply below_drew1 | refine below_set ?_ (IsS60.ge HI0.out)) | exact HB.out)); rintro e w11 ⟨rfl, hi, hb, hk⟩; have n0_ := Aside0.mk (KeepBut.trans (by repeat (first | (with_reducible first | exact HK.out | apply KeepBut.set_ | apply keep_drewN | apply keep_drew | apply keep_alloc) | exact HK.out)) hk (.inl rfl)); have n1_ := Aside0.mk (hb); have n2_ := Aside0.mk (hi); clear HK; clear HB; clear HI0; have HK := n0_; have HB := n1_; have HI0 := n2_; clear n0_ n1_ n2_; (try clear hb); (try clear hb2); (try clear hk); (try clear hi))))
  go_ret2
  exact ⟨by first | rfl | (simp [errW_none, errW_some] <;> rfl) | (simp [*, errW_none, errW_some] <;> rfl), by repeat (first | (with_reducible first | exact HI0.out | apply IsS60.alloc | apply IsS60.drewN | apply IsS60.drew | apply IsS60.set_1) | exact HI0.out), by repeat (first | (with_reducible first | exact HB.out | apply below_alloc | apply pw_below_drewN | apply below_drew1 | refine below_set ?_ (IsS60.ge HI0.out)) | exact HB.out), by repeat (first | (with_reducible first | exact HK.out | apply KeepBut.set_ | apply keep_drewN | apply keep_drew | apply keep_alloc) | exact HK.out)⟩
end Go.Proofs.YtcheinjlgojepaaDoor.P
namespace Go.Proofs.YtcheinjlgojepaaDoor.P
open Go.RowKit Go.Proofs.YtcheinjlgojepaaDoorW.PrintWords Go.Proofs.YtcheinjlgojepaaDoorW.PrintLast Go.Proofs.YtcheinjlgojepaaDoorW.PrintMore
attribute [local go_sem] max2_int min2_int max_two min_two max_three min_three max_four min_four   -- for this text's walks alone
set_option linter.unusedVariables false
set_option linter.unusedSimpArgs false
def code_cursor_keyText.l0 : Nat → List Int → List Int → Int → Option (ByteArray × Int × Int)
 | 0, _, _, _ => none
 | k + 1, x4, x1000, x1001 => (code_cursor_left.f x1000 x1001 1).bind fun bt350 => (if bt350.1 = true then (if 0 ≤ bt350.2 then (if bt350.2 < (x1000.length : Int) then (if (rd x1000 bt350.2) = 0 then ((code_cursor_left.f x1000 (wrap64 (bt350.2 + 1)) 1).bind fun bt356 => (if bt356.1 = true then (if 0 ≤ (wrap64 ((wrap64 (bt356.2 + 1)) - 1)) then (if (wrap64 ((wrap64 (bt356.2 + 1)) - 1)) < (x1000.length : Int) then (if (rd x1000 (wrap64 ((wrap64 (bt356.2 + 1)) - 1))) = 1 then (some (strOfNums x4, 0, wrap64 (bt356.2 + 1))) else (if (rd x1000 (wrap64 ((wrap64 (bt356.2 + 1)) - 1))) = 255 then (if x4.length < 140737488355328 then (code_cursor_keyText.l0 k (x4 ++ [0]) x1000 (wrap64 (bt356.2 + 1))) else (none)) else (some ((⟨#[]⟩ : ByteArray), 10, wrap64 (bt356.2 + 1))))) else (none)) else (none)) else (some ((⟨#[]⟩ : ByteArray), 11, bt356.2)))) else (if x4.length < 140737488355328 then (code_cursor_keyText.l0 k (x4 ++ [rd x1000 bt350.2]) x1000 (wrap64 (bt350.2 + 1))) else (none))) else (none)) else (none)) else (some ((⟨#[]⟩ : ByteArray), 11, bt350.2)))
def code_cursor_keyText.f (k : Nat) (s0_0 : List Int) (s0_1 : Int) : Option (ByteArray × Int × Int) := code_cursor_keyText.l0 k ([] : List Int) s0_0 s0_1
theorem code_cursor_keyText.mono_l : ∀ k, (∀ y0 y1 y2, LeO (code_cursor_keyText.l0 k y0 y1 y2) (code_cursor_keyText.l0 (k + 1) y0 y1 y2))
 | 0 => fun _ _ _ r h => by simp [code_cursor_keyText.l0] at h
 | k + 1 => by
  have ih0 := code_cursor_keyText.mono_l k
  ·intro y0 y1 y2
   unfold code_cursor_keyText.l0
   repeat' first
   | (with_reducible exact ih0 _ _ _)
   | (with_reducible exact LeO.refl _)
   | (with_reducible exact LeO.none _)
   | (with_reducible refine LeO.ite ?_ ?_)
   | (with_reducible refine LeO.bind ?_ (fun _ => ?_))
   | exact ih0 _ _ _
   | exact LeO.none _
   | refine LeO.ite ?_ ?_
   | refine LeO.bind ?_ (fun _ => ?_)
theorem code_cursor_keyText.mono : ∀ a0 a1 k, LeO (code_cursor_keyText.f k a0 a1) (code_cursor_keyText.f (k + 1) a0 a1) := by
 intro a0 a1 k
 have ih0 := code_cursor_keyText.mono_l k
 unfold code_cursor_keyText.f
 repeat' first
   | (with_reducible exact ih0 _ _ _)
   | (with_reducible exact LeO.refl _)
   | (with_reducible exact LeO.none _)
   | (with_reducible refine LeO.ite ?_ ?_)
   | (with_reducible refine LeO.bind ?_ (fun _ => ?_))
   | exact ih0 _ _ _
   | exact LeO.none _
   | refine LeO.ite ?_ ?_
   | refine LeO.bind ?_ (fun _ => ?_)
set_option maxHeartbeats 8000000 in
set_option maxRecDepth 100000 in
theorem code_cursor_keyText.calls (k : Nat) (g : Nat) (s0_0 : List Int) (s0_1 : Int) (r1 : ByteArray) (r2 : Int) (r3 : Int) (w0 w : World) (hI : IsS60 w0 w g s0_0 s0_1) (hB : Below w0.heap.size w0 w) (h : code_cursor_keyText.f k s0_0 s0_1 = some (r1, r2, r3)) :
  Calls Tryd.prog 50 #[.pointer (some ⟨g, 0, none⟩)] w fun e w' => e = .returned (.tuple #[.string r1, .int .i64 r2]) ∧ IsS60 w0 w' g s0_0 r3 ∧ Below w0.heap.size w0 w' ∧ KeepBut w w' g none := by
 have HI0 := Aside0.mk hI
 have HK := Aside0.mk (KeepBut.refl w g none)
 have HL := Aside0.mk hB.size
 clear hI
 have HW0 := Aside0.mk hB.size
 have HB := Aside0.mk hB
 clear hB
 have H : (code_cursor_keyText.l0 k ([] : List Int) s0_0 s0_1) = some (r1, r2, r3) := h
 clear h
 have H' := Aside0.mk H
 clear H
 go_enter Tryd.func50, Tryd.ntmps50
 go_upto_block 0 with (first | (apply wp_scope_straight) | (apply wp_label))
 go_wp2
 repeat (go_quiet (fail); try go_wp2)
 go_loopg [4] k (fun kq v4 w' => ∃ (x4_1 : List Int) (x1001_1 : Int), Aside0 (code_cursor_keyText.l0 kq x4_1 s0_0 x1001_1 = some (r1, r2, r3)) ∧ Aside0 (kq ≤ k) ∧ Aside0 (Kd.R (Kd.int .u8) 5 w' w.heap.size (fun _ => True) v4 x4_1) ∧ Aside0 (IsS60 w0 w' g s0_0 x1001_1) ∧ Aside0 (KeepBut w w' g none) ∧ Aside0 (Below w0.heap.size w0 w'))
 case atStart => exact ⟨(([] : List Int)), (s0_1), H', ⟨Nat.le_refl _⟩, ⟨by first | exact Kd.R_nil _ _ _ _ _ | exact Kd.N_nil _ _ _ _ _ | exact Kd.V_nil _ _ _ _ _ | exact Kd.Q_nil _ _ _ _ _ | exact Kd.S_nil _ _ _ _ _⟩, ⟨by repeat (first | (with_reducible first | exact HI0.out | apply IsS60.alloc | apply IsS60.drewN | apply IsS60.drew | apply IsS60.set_1) | exact HI0.out)⟩, ⟨by repeat (first | (with_reducible first | exact HK.out | apply KeepBut.set_ | apply keep_drewN | apply keep_drew | apply keep_alloc) | exact HK.out)⟩, ⟨by repeat (first | (with_reducible first | exact HB.out | apply below_alloc | apply pw_below_drewN | apply below_drew1 | refine below_set ?_ (IsS60.ge HI0.out)) | exact HB.out)⟩⟩
 case round =>
  clear H'
  obtain ⟨x4_1, x1001_1, HA, HK1, HO_4, HI0, HK, HB⟩ := hrel
  cases gk with
  | zero => exact absurd HA.out (by simp [code_cursor_keyText.l0])
  | succ k1 =>
   have H := HA.out
   clear HA
   simp only [code_cursor_keyText.l0] at H
   replace H := Option.bind_eq_some_iff.mp H
   obtain ⟨⟨t350, t351⟩, A20, H⟩ := H
   replace H : (if t350 = true then (if 0 ≤ t351 then (if t351 < (s0_0.length : Int) then (if (rd s0_0 t351) = 0 then ((code_cursor_left.f s0_0 (wrap64 (t351 + 1)) 1).bind fun bt356 => (if bt356.1 = true then (if 0 ≤ (wrap64 ((wrap64 (bt356.2 + 1)) - 1)) then (if (wrap64 ((wrap64 (bt356.2 + 1)) - 1)) < (s0_0.length : Int) then (if (rd s0_0 (wrap64 ((wrap64 (bt356.2 + 1)) - 1))) = 1 then (some (strOfNums x4_1, 0, wrap64 (bt356.2 + 1))) else (if (rd s0_0 (wrap64 ((wrap64 (bt356.2 + 1)) - 1))) = 255 then (if x4_1.length < 140737488355328 then (code_cursor_keyText.l0 k1 (x4_1 ++ [0]) s0_0 (wrap64 (bt356.2 + 1))) else (none)) else (some ((⟨#[]⟩ : ByteArray), 10, wrap64 (bt356.2 + 1))))) else (none)) else (none)) else (some ((⟨#[]⟩ : ByteArray), 11, bt356.2)))) else (if x4_1.length < 140737488355328 then (code_cursor_keyText.l0 k1 (x4_1 ++ [rd s0_0 t351]) s0_0 (wrap64 (t351 + 1))) else (none))) else (none)) else (none)) else (some ((⟨#[]⟩ : ByteArray), 11, t351))) = some (r1, r2, r3) := H
   have A2 := Aside0.mk A20
   clear A20
   by_cases c3 : t350 = true
   ·subst c3
    have H1 : (if 0 ≤ t351 then (if t351 < (s0_0.length : Int) then (if (rd s0_0 t351) = 0 then ((code_cursor_left.f s0_0 (wrap64 (t351 + 1)) 1).bind fun bt356 => (if bt356.1 = true then (if 0 ≤ (wrap64 ((wrap64 (bt356.2 + 1)) - 1)) then (if (wrap64 ((wrap64 (bt356.2 + 1)) - 1)) < (s0_0.length : Int) then (if (rd s0_0 (wrap64 ((wrap64 (bt356.2 + 1)) - 1))) = 1 then (some (strOfNums x4_1, 0, wrap64 (bt356.2 + 1))) else (if (rd s0_0 (wrap64 ((wrap64 (bt356.2 + 1)) - 1))) = 255 then (if x4_1.length < 140737488355328 then (code_cursor_keyText.l0 k1 (x4_1 ++ [0]) s0_0 (wrap64 (bt356.2 + 1))) else (none)) else (some ((⟨#[]⟩ : ByteArray), 10, wrap64 (bt356.2 + 1))))) else (none)) else (none)) else (some ((⟨#[]⟩ : ByteArray), 11, bt356.2)))) else (if x4_1.length < 140737488355328 then (code_cursor_keyText.l0 k1 (x4_1 ++ [rd s0_0 t351]) s0_0 (wrap64 (t351 + 1))) else (none))) else (none)) else (none)) = some (r1, r2, r3) := by rw [if_pos rfl] at H; exact H
    clear H
    have H := H1
    clear H1
    by_cases c4 : 0 ≤ t351
    ·rw [if_pos c4] at H
     have c4b0 : decide (0 ≤ t351) = true := decide_eq_true c4
     clear c4
     by_cases c5 : t351 < (s0_0.length : Int)
     ·rw [if_pos c5] at H
      have c5b0 : decide (t351 < (s0_0.length : Int)) = true := decide_eq_true c5
      clear c5
      by_cases c6 : (rd s0_0 t351) = 0
      ·rw [if_pos c6] at H
       have c6b0 : ((rd s0_0 t351) == 0) = true := beq_iff_eq.mpr c6
       have c6b1 : ((rd s0_0 t351) != 0) = false := bne_eq_false_iff_eq.mpr c6
       clear c6
       replace H := Option.bind_eq_some_iff.mp H
       obtain ⟨⟨t356, t357⟩, A70, H⟩ := H
       replace H : (if t356 = true then (if 0 ≤ (wrap64 ((wrap64 (t357 + 1)) - 1)) then (if (wrap64 ((wrap64 (t357 + 1)) - 1)) < (s0_0.length : Int) then (if (rd s0_0 (wrap64 ((wrap64 (t357 + 1)) - 1))) = 1 then (some (strOfNums x4_1, 0, wrap64 (t357 + 1))) else (if (rd s0_0 (wrap64 ((wrap64 (t357 + 1)) - 1))) = 255 then (if x4_1.length < 140737488355328 then (code_cursor_keyText.l0 k1 (x4_1 ++ [0]) s0_0 (wrap64 (t357 + 1))) else (none)) else (some ((⟨#[]⟩ : ByteArray), 10, wrap64 (t357 + 1))))) else (none)) else (none)) else (some ((⟨#[]⟩ : ByteArray), 11, t357))) = some (r1, r2, r3) := H
       have A7 := Aside0.mk A70
       clear A70
       by_cases c8 : t356 = true
       ·subst c8
        have H1 : (if 0 ≤ (wrap64 ((wrap64 (t357 + 1)) - 1)) then (if (wrap64 ((wrap64 (t357 + 1)) - 1)) < (s0_0.length : Int) then (if (rd s0_0 (wrap64 ((wrap64 (t357 + 1)) - 1))) = 1 then (some (strOfNums x4_1, 0, wrap64 (t357 + 1))) else (if (rd s0_0 (wrap64 ((wrap64 (t357 + 1)) - 1))) = 255 then (if x4_1.length < 140737488355328 then (code_cursor_keyText.l0 k1 (x4_1 ++ [0]) s0_0 (wrap64 (t357 + 1))) else (none)) else (some ((⟨#[]⟩ : ByteArray), 10, wrap64 (t357 + 1))))) else (none)) else (none)) = some (r1, r2, r3) := by rw [if_pos rfl] at H; exact H
        clear H
        have H := H1
        clear H1
        obtain ⟨ji9, hji9⟩ : ∃ j_ : Int, (wrap64 ((wrap64 (t357 + 1)) - 1)) = j_ := ⟨_, rfl⟩
        replace H : (if 0 ≤ (ji9) then (if (ji9) < (s0_0.length : Int) then (if (rd s0_0 (ji9)) = 1 then (some (strOfNums x4_1, 0, wrap64 (t357 + 1))) else (if (rd s0_0 (ji9)) = 255 then (if x4_1.length < 140737488355328 then (code_cursor_keyText.l0 k1 (x4_1 ++ [0]) s0_0 (wrap64 (t357 + 1))) else (none)) else (some ((⟨#[]⟩ : ByteArray), 10, wrap64 (t357 + 1))))) else (none)) else (none)) = some (r1, r2, r3) := by first | (rw [hji9] at H; exact H) | (simp only [hji9] at H ⊢; exact H)
        (try rw [hji9] at A2)
        (try rw [hji9] at A7)
        have hji9w : (IntKind.i64.wrap ((wrap64 (t357 + 1)) - 1)) = ji9 := (i64_w _).trans hji9
        by_cases c10 : 0 ≤ (ji9)
        ·rw [if_pos c10] at H
         have c10b0 : decide (0 ≤ (ji9)) = true := decide_eq_true c10
         clear c10
         by_cases c11 : (ji9) < (s0_0.length : Int)
         ·rw [if_pos c11] at H
          have c11b0 : decide ((ji9) < (s0_0.length : Int)) = true := decide_eq_true c11
          clear c11
          by_cases c12 : (rd s0_0 (ji9)) = 1
          ·rw [if_pos c12] at H
           have c12b0 : ((rd s0_0 (ji9)) == 1) = true := beq_iff_eq.mpr c12
           have c12b1 : ((rd s0_0 (ji9)) != 1) = false := bne_eq_false_iff_eq.mpr c12
           clear c12
           simp only [Option.some.injEq, Prod.mk.injEq] at H
           obtain ⟨rfl, rfl, rfl⟩ := H
           go_wp2_with (first | (go_at_call 58; (with_reducible refine (code_cursor_left.calls g s0_0 x1001_1 1 true t351 w0 _ ?side1 ?side2 A2.out).mono ?_); (case side1 => repeat (first | (with_reducible first | exact HI0.out | apply IsS60.alloc | apply IsS60.drewN | apply IsS60.drew | apply IsS60.set_1) | exact HI0.out)); (case side2 => repeat (first | (with_reducible first | exact HB.out | apply below_alloc | apply pw_below_drewN | apply below_drew1 | refine below_set ?_ (IsS60.ge HI0.out)) | exact HB.out)); rintro e w13 ⟨rfl, hi, hb, hk⟩; have n0_ := Aside0.mk (Kd.R_mono (Kd.R_keep (IsS60.apart (show IsS60 w0 _ g s0_0 x1001_1 from by repeat (first | (with_reducible first | exact HI0.out | apply IsS60.alloc | apply IsS60.drewN | apply IsS60.drew | apply IsS60.set_1) | exact HI0.out)) (by (with_reducible repeat (first | apply Kd.R_alloc | apply Kd.R_drewN | apply Kd.R_drew)); exact HO_4.out) (by decide)) hk (fun _ h => h.2)) (fun _ h => h.1)); have n1_ := Aside0.mk (KeepBut.trans (by repeat (first | (with_reducible first | exact HK.out | apply KeepBut.set_ | apply keep_drewN | apply keep_drew | apply keep_alloc) | exact HK.out)) hk (.inl rfl)); have n2_ := Aside0.mk (hb); have n3_ := Aside0.mk (hi); clear HO_4; clear HK; clear HB; clear HI0; have HO_4 := n0_; have HK := n1_; have HB := n2_; have HI0 := n3_; clear n0_ n1_ n2_ n3_; (try clear hb); (try clear hb2); (try clear hk); (try clear hi); obtain ⟨ASz14_0, cSz14_0, HGz14, hgz14, HSz14_0, HCz14_0⟩ := HI0.out; have hcz14_0 := cellS60_0 HGz14; have hcz14_1 := cellS60_1 HGz14; have hfz14_1 := blk_frozen HGz14 1; clear HGz14 hgz14; have p352 : 0 ≤ (t351 : Int) := of_decide_eq_true (by first | (with_reducible assumption) | assumption); have q352 : t351 < (s0_0.length : Int) := of_decide_eq_true (by first | (with_reducible assumption) | assumption); obtain ⟨ad352, e352, hx352_0⟩ := Kd.at_int HSz14_0 t351 p352 q352; cases e352; replace hx352_0 := pw_cell_below HB.out hx352_0; replace p352 := eq_true p352; replace q352 := eq_true q352) | (go_at_call 58; (with_reducible refine (code_cursor_left.calls g s0_0 (wrap64 (t351 + 1)) 1 true t357 w0 _ ?side1 ?side2 A7.out).mono ?_); (case side1 => repeat (first | (with_reducible first | exact HI0.out | apply IsS60.alloc | apply IsS60.drewN | apply IsS60.drew | apply IsS60.set_1) | exact HI0.out)); (case side2 => repeat (first | (with_reducible first | exact HB.out | apply below_alloc | apply pw_below_drewN | apply below_drew1 | refine below_set ?_ (IsS60.ge HI0.out)) | exact HB.out)); rintro e w15 ⟨rfl, hi, hb, hk⟩; have n0_ := Aside0.mk (Kd.R_mono (Kd.R_keep (IsS60.apart (show IsS60 w0 _ g s0_0 (wrap64 (t351 + 1)) from by repeat (first | (with_reducible first | exact HI0.out | apply IsS60.alloc | apply IsS60.drewN | apply IsS60.drew | apply IsS60.set_1) | exact HI0.out)) (by (with_reducible repeat (first | apply Kd.R_alloc | apply Kd.R_drewN | apply Kd.R_drew)); exact (Kd.R_mono (Kd.R_far (p := ⟨g, 1, none⟩) (IsS60.apart HI0.out HO_4.out (by decide)) (fun _ hk => hk.2) (.int .i64 (wrap64 (t351 + 1)))) (fun _ h_ => h_.1))) (by decide)) hk (fun _ h => h.2)) (fun _ h => h.1)); have n1_ := Aside0.mk (KeepBut.trans (by repeat (first | (with_reducible first | exact HK.out | apply KeepBut.set_ | apply keep_drewN | apply keep_drew | apply keep_alloc) | exact HK.out)) hk (.inl rfl)); have n2_ := Aside0.mk (hb); have n3_ := Aside0.mk (hi); clear HO_4; clear HK; clear HB; clear HI0; have HO_4 := n0_; have HK := n1_; have HB := n2_; have HI0 := n3_; clear n0_ n1_ n2_ n3_; (try clear hb); (try clear hb2); (try clear hk); (try clear hi); obtain ⟨ASz16_0, cSz16_0, HGz16, hgz16, HSz16_0, HCz16_0⟩ := HI0.out; have hcz16_0 := cellS60_0 HGz16; have hcz16_1 := cellS60_1 HGz16; have hfz16_1 := blk_frozen HGz16 1; clear HGz16 hgz16; have p358 : 0 ≤ ((ji9) : Int) := of_decide_eq_true (by first | (with_reducible assumption) | assumption); have q358 : (ji9) < (s0_0.length : Int) := of_decide_eq_true (by first | (with_reducible assumption) | assumption); obtain ⟨ad358, e358, hx358_0⟩ := Kd.at_int HSz16_0 (ji9) p358 q358; cases e358; have hn358_0 : ad358.block ≠ g := Nat.ne_of_lt (Nat.lt_of_lt_of_le (by have := World.block_lt_of_cell? _ _ hx358_0; first | rwa [add_block] at this | exact this) (IsS60.ge HI0.out)); replace hx358_0 := pw_cell_below HB.out hx358_0; replace hx358_0 := (cell_far (p := ⟨g, 1, none⟩) (by first | (rw [add_block]; exact hn358_0) | (show (Addr.add _ _).block ≠ _; rw [add_block]; exact hn358_0) | exact hn358_0) (.int .i64 (wrap64 (t357 + 1)))).trans hx358_0; (try have hy358_0 := fun (n_ : Nat) => (show (((w15.drewN n_).setCell ⟨g, 1, none⟩ (.int .i64 (wrap64 (t357 + 1))))).cell? _ = some _ from hx358_0)); clear hn358_0; replace p358 := eq_true p358; replace q358 := eq_true q358; have hcv17 := own_string (P := Tryd.prog) Tryd.underlying31 Tryd.underlying5 Tryd.underlying9 (Kd.own_of_R HO_4.out)))
           repeat (go_quiet (first | (go_at_call 58; (with_reducible refine (code_cursor_left.calls g s0_0 x1001_1 1 true t351 w0 _ ?side1 ?side2 A2.out).mono ?_); (case side1 => repeat (first | (with_reducible first | exact HI0.out | apply IsS60.alloc | apply IsS60.drewN | apply IsS60.drew | apply IsS60.set_1) | exact HI0.out)); (case side2 => repeat (first | (with_reducible first | exact HB.out | apply below_alloc | apply pw_below_drewN | apply below_drew1 | refine below_set ?_ (IsS60.ge HI0.out)) | exact HB.out)); rintro e w13 ⟨rfl, hi, hb, hk⟩; have n0_ := Aside0.mk (Kd.R_mono (Kd.R_keep (IsS60.apart (show IsS60 w0 _ g s0_0 x1001_1 from by repeat (first | (with_reducible first | exact HI0.out | apply IsS60.alloc | apply IsS60.drewN | apply IsS60.drew | apply IsS60.set_1) | exact HI0.out)) (by (with_reducible repeat (first | apply Kd.R_alloc | apply Kd.R_drewN | apply Kd.R_drew)); exact HO_4.out) (by decide)) hk (fun _ h => h.2)) (fun _ h => h.1)); have n1_ := Aside0.mk (KeepBut.trans (by repeat (first | (with_reducible first | exact HK.out | apply KeepBut.set_ | apply keep_drewN | apply keep_drew | apply keep_alloc) | exact HK.out)) hk (.inl rfl)); have n2_ := Aside0.mk (hb); have n3_ := Aside0.mk (hi); clear HO_4; clear HK; clear HB; clear HI0; have HO_4 := n0_; have HK := n1_; have HB := n2_; have HI0 := n3_; clear n0_ n1_ n2_ n3_; (try clear hb); (try clear hb2); (try clear hk); (try clear hi); obtain ⟨ASz14_0, cSz14_0, HGz14, hgz14, HSz14_0, HCz14_0⟩ := HI0.out; have hcz14_0 := cellS60_0 HGz14; have hcz14_1 := cellS60_1 HGz14; have hfz14_1 := blk_frozen HGz14 1; clear HGz14 hgz14; have p352 : 0 ≤ (t351 : Int) := of_decide_eq_true (by first | (with_reducible assumption) | assumption); have q352 : t351 < (s0_0.length : Int) := of_decide_eq_true (by first | (with_reducible assumption) | assumption); obtain ⟨ad352, e352, hx352_0⟩ := Kd.at_int HSz14_0 t351 p352 q352; cases e352; replace hx352_0 := pw_cell_below HB.out hx352_0; replace p352 := eq_true p352; replace q352 := eq_true q352) | (go_at_call 58; (with_reducible refine (code_cursor_left.calls g s0_0 (wrap64 (t351 + 1)) 1 true t357 w0 _ ?side1 ?side2 A7.out).mono ?_); (case side1 => repeat (first | (with_reducible first | exact HI0.out | apply IsS60.alloc | apply IsS60.drewN | apply IsS60.drew | apply IsS60.set_1) | exact HI0.out)); (case side2 => repeat (first | (with_reducible first | exact HB.out | apply below_alloc | apply pw_below_drewN | apply below_drew1 | refine below_set ?_ (IsS60.ge HI0.out)) | exact HB.out)); rintro e w15 ⟨rfl, hi, hb, hk⟩; have n0_ := Aside0.mk (Kd.R_mono (Kd.R_keep (IsS60.apart (show IsS60 w0 _ g s0_0 (wrap64 (t351 + 1)) from by repeat (first | (with_reducible first | exact HI0.out | apply IsS60.alloc | apply IsS60.drewN | apply IsS60.drew | apply IsS60.set_1) | exact HI0.out)) (by (with_reducible repeat (first | apply Kd.R_alloc | apply Kd.R_drewN | apply Kd.R_drew)); exact (Kd.R_mono (Kd.R_far (p := ⟨g, 1, none⟩) (IsS60.apart HI0.out HO_4.out (by decide)) (fun _ hk => hk.2) (.int .i64 (wrap64 (t351 + 1)))) (fun _ h_ => h_.1))) (by decide)) hk (fun _ h => h.2)) (fun _ h => h.1)); have n1_ := Aside0.mk (KeepBut.trans (by repeat (first | (with_reducible first | exact HK.out | apply KeepBut.set_ | apply keep_drewN | apply keep_drew | apply keep_alloc) | exact HK.out)) hk (.inl rfl)); have n2_ := Aside0.mk (hb); have n3_ := Aside0.mk (hi); clear HO_4; clear HK; clear HB; clear HI0; have HO_4 := n0_; have HK := n1_; have HB := n2_; have HI0 := n3_; clear n0_ n1_ n2_ n3_; (try clear hb); (try clear hb2); (try clear hk); (try clear hi); obtain ⟨ASz16_0, cSz16_0, HGz16, hgz16, HSz16_0, HCz16_0⟩ := HI0.out; have hcz16_0 := cellS60_0 HGz16; have hcz16_1 := cellS60_1 HGz16; have hfz16_1 := blk_frozen HGz16 1; clear HGz16 hgz16; have p358 : 0 ≤ ((ji9) : Int) := of_decide_eq_true (by first | (with_reducible assumption) | assumption); have q358 : (ji9) < (s0_0.length : Int) := of_decide_eq_true (by first | (with_reducible assumption) | assumption); obtain ⟨ad358, e358, hx358_0⟩ := Kd.at_int HSz16_0 (ji9) p358 q358; cases e358; have hn358_0 : ad358.block ≠ g := Nat.ne_of_lt (Nat.lt_of_lt_of_le (by have := World.block_lt_of_cell? _ _ hx358_0; first | rwa [add_block] at this | exact this) (IsS60.ge HI0.out)); replace hx358_0 := pw_cell_below HB.out hx358_0; replace hx358_0 := (cell_far (p := ⟨g, 1, none⟩) (by first | (rw [add_block]; exact hn358_0) | (show (Addr.add _ _).block ≠ _; rw [add_block]; exact hn358_0) | exact hn358_0) (.int .i64 (wrap64 (t357 + 1)))).trans hx358_0; (try have hy358_0 := fun (n_ : Nat) => (show (((w15.drewN n_).setCell ⟨g, 1, none⟩ (.int .i64 (wrap64 (t357 + 1))))).cell? _ = some _ from hx358_0)); clear hn358_0; replace p358 := eq_true p358; replace q358 := eq_true q358; have hcv17 := own_string (P := Tryd.prog) Tryd.underlying31 Tryd.underlying5 Tryd.underlying9 (Kd.own_of_R HO_4.out))); try go_wp2_with (first | (go_at_call 58; (with_reducible refine (code_cursor_left.calls g s0_0 x1001_1 1 true t351 w0 _ ?side1 ?side2 A2.out).mono ?_); (case side1 => repeat (first | (with_reducible first | exact HI0.out | apply IsS60.alloc | apply IsS60.drewN | apply IsS60.drew | apply IsS60.set_1) | exact HI0.out)); (case side2 => repeat (first | (with_reducible first | exact HB.out | apply below_alloc | apply pw_below_drewN | apply below_drew1 | refine below_set ?_ (IsS60.ge HI0.out)) | exact HB.out)); rintro e w13 ⟨rfl, hi, hb, hk⟩; have n0_ := Aside0.mk (Kd.R_mono (Kd.R_keep (IsS60.apart (show IsS60 w0 _ g s0_0 x1001_1 from by repeat (first | (with_reducible first | exact HI0.out | apply IsS60.alloc | apply IsS60.drewN | apply IsS60.drew | apply IsS60.set_1) | exact HI0.out)) (by (with_reducible repeat (first | apply Kd.R_alloc | apply Kd.R_drewN | apply Kd.R_drew)); exact HO_4.out) (by decide)) hk (fun _ h => h.2)) (fun _ h => h.1)); have n1_ := Aside0.mk (KeepBut.trans (by repeat (first | (with_reducible first | exact HK.out | apply KeepBut.set_ | apply keep_drewN | apply keep_drew | apply keep_alloc) | exact HK.out)) hk (.inl rfl)); have n2_ := Aside0.mk (hb); have n3_ := Aside0.mk (hi); clear HO_4; clear HK; clear HB; clear HI0; have HO_4 := n0_; have HK := n1_; have HB := n2_; have HI0 := n3_; clear n0_ n1_ n2_ n3_; (try clear hb); (try clear hb2); (try clear hk); (try clear hi); obtain ⟨ASz14_0, cSz14_0, HGz14, hgz14, HSz14_0, HCz14_0⟩ := HI0.out; have hcz14_0 := cellS60_0 HGz14; have hcz14_1 := cellS60_1 HGz14; have hfz14_1 := blk_frozen HGz14 1; clear HGz14 hgz14; have p352 : 0 ≤ (t351 : Int) := of_decide_eq_true (by first | (with_reducible assumption) | assumption); have q352 : t351 < (s0_0.length : Int) := of_decide_eq_true (by first | (with_reducible assumption) | assumption); obtain ⟨ad352, e352, hx352_0⟩ := Kd.at_int HSz14_0 t351 p352 q352; cases e352; replace hx352_0 := pw_cell_below HB.out hx352_0; replace p352 := eq_true p352; replace q352 := eq_true q352) | (go_at_call 58; (with_reducible refine (code_cursor_left.calls g s0_0 (wrap64 (t351 + 1)) 1 true t357 w0 _ ?side1 ?side2 A7.out).mono ?_); (case side1 => repeat (first | (with_reducible first | exact HI0.out | apply IsS60.alloc | apply IsS60.drewN | apply IsS60.drew | apply IsS60.set_1) | exact HI0.out)); (case side2 => repeat (first | (with_reducible first | exact HB.out | apply below_alloc | apply pw_below_drewN | apply below_drew1 | refine below_set ?_ (IsS60.ge HI0.out)) | exact HB.out)); rintro e w15 ⟨rfl, hi, hb, hk⟩; have n0_ := Aside0.mk (Kd.R_mono (Kd.R_keep (IsS60.apart (show IsS60 w0 _ g s0_0 (wrap64 (t351 + 1)) from by repeat (first | (with_reducible first | exact HI0.out | apply IsS60.alloc | apply IsS60.drewN | apply IsS60.drew | apply IsS60.set_1) | exact HI0.out)) (by (with_reducible repeat (first | apply Kd.R_alloc | apply Kd.R_drewN | apply Kd.R_drew)); exact (Kd.R_mono (Kd.R_far (p := ⟨g, 1, none⟩) (IsS60.apart HI0.out HO_4.out (by decide)) (fun _ hk => hk.2) (.int .i64 (wrap64 (t351 + 1)))) (fun _ h_ => h_.1))) (by decide)) hk (fun _ h => h.2)) (fun _ h => h.1)); have n1_ := Aside0.mk (KeepBut.trans (by repeat (first | (with_reducible first | exact HK.out | apply KeepBut.set_ | apply keep_drewN | apply keep_drew | apply keep_alloc) | exact HK.out)) hk (.inl rfl)); have n2_ := Aside0.mk (hb); have n3_ := Aside0.mk (hi); clear HO_4; clear HK; clear HB; clear HI0; have HO_4 := n0_; have HK := n1_; have HB := n2_; have HI0 := n3_; clear n0_ n1_ n2_ n3_; (try clear hb); (try clear hb2); (try clear hk); (try clear hi); obtain ⟨ASz16_0, cSz16_0, HGz16, hgz16, HSz16_0, HCz16_0⟩ := HI0.out; have hcz16_0 := cellS60_0 HGz16; have hcz16_1 := cellS60_1 HGz16; have hfz16_1 := blk_frozen HGz16 1; clear HGz16 hgz16; have p358 : 0 ≤ ((ji9) : Int) := of_decide_eq_true (by first | (with_reducible assumption) | assumption); have q358 : (ji9) < (s0_0.length : Int) := of_decide_eq_true (by first | (with_reducible assumption) | assumption); obtain ⟨ad358, e358, hx358_0⟩ := Kd.at_int HSz16_0 (ji9) p358 q358; cases e358; have hn358_0 : ad358.block ≠ g := Nat.ne_of_lt (Nat.lt_of_lt_of_le (by have := World.block_lt_of_cell? _ _ hx358_0; first | rwa [add_block] at this | exact this) (IsS60.ge HI0.out)); replace hx358_0 := pw_cell_below HB.out hx358_0; replace hx358_0 := (cell_far (p := ⟨g, 1, none⟩) (by first | (rw [add_block]; exact hn358_0) | (show (Addr.add _ _).block ≠ _; rw [add_block]; exact hn358_0) | exact hn358_0) (.int .i64 (wrap64 (t357 + 1)))).trans hx358_0; (try have hy358_0 := fun (n_ : Nat) => (show (((w15.drewN n_).setCell ⟨g, 1, none⟩ (.int .i64 (wrap64 (t357 + 1))))).cell? _ = some _ from hx358_0)); clear hn358_0; replace p358 := eq_true p358; replace q358 := eq_true q358; have hcv17 := own_string (P := Tryd.prog) Tryd.underlying31 Tryd.underlying5 Tryd.underlying9 (Kd.own_of_R HO_4.out))))
           have hcvn := fun n_ : Nat => own_string (P := Tryd.prog) (w := ((w15.setCell ⟨g, 1, none⟩ (.int .i64 (wrap64 (t357 + 1)))).drewN n_)) Tryd.underlying31 Tryd.underlying5 Tryd.underlying9 (Kd.own_of_R (Kd.R_drewN (Kd.R_far (p := ⟨g, 1, none⟩) (IsS60.apart HI0.out HO_4.out (by decide)) (fun _ hk => hk.2) _) n_))
           simp only [hcvn]
           go_wp2
           (try simp only [Exit.noGoto_ret])
           go_ret2
           exact ⟨by first | rfl | (simp [errW_none, errW_some] <;> rfl) | (simp only [← hji9]; first | rfl | (simp [errW_none, errW_some] <;> rfl)) | (simp [*, errW_none, errW_some] <;> rfl), by repeat (first | (with_reducible first | exact HI0.out | apply IsS60.alloc | apply IsS60.drewN | apply IsS60.drew | apply IsS60.set_1) | exact HI0.out), by repeat (first | (with_reducible first | exact HB.out | apply below_alloc | apply pw_below_drewN | apply below_drew1 | refine below_set ?_ (IsS60.ge HI0.out)) | exact HB.out), by repeat (first | (with_reducible first | exact HK.out | apply KeepBut.set_ | apply keep_drewN | apply keep_drew | apply keep_alloc) | exact HK.out)⟩
          ·rw [if_neg c12] at H
           have c12b0 : ((rd s0_0 (ji9)) == 1) = false := beq_eq_false_iff_ne.mpr c12
           have c12b1 : ((rd s0_0 (ji9)) != 1) = true := bne_iff_ne.mpr c12
           by_cases c18 : (rd s0_0 (ji9)) = 255
           ·rw [if_pos c18] at H
            have c18b0 : ((rd s0_0 (ji9)) == 255) = true := beq_iff_eq.mpr c18
            have c18b1 : ((rd s0_0 (ji9)) != 255) = false := bne_eq_false_iff_eq.mpr c18
            clear c18
            by_cases c19 : x4_1.length < 140737488355328
            ·rw [if_pos c19] at H
             have LMc19 := Aside0.mk c19
             clear c19
             obtain ⟨y359, hy359⟩ : ∃ y_ : List Int, y_ = (x4_1 ++ [0]) := ⟨_, rfl⟩
             replace H : (code_cursor_keyText.l0 k1 y359 s0_0 (wrap64 (t357 + 1))) = some (r1, r2, r3) := by first | (rw [hy359]; with_reducible exact H) | (have H2_ := (Option.bind_some _ _).symm.trans H; rw [hy359]; with_reducible exact H2_) | (have H2_ := (Option.bind_some _ _).symm.trans H; with_reducible exact H2_) | with_reducible exact H | (rw [hy359]; exact H) | exact H
             have Ny359 := Aside0.mk hy359
             clear hy359
             have H' := Aside0.mk H
             clear H
             go_wp2_with (first | (go_at_call 58; (with_reducible refine (code_cursor_left.calls g s0_0 x1001_1 1 true t351 w0 _ ?side1 ?side2 A2.out).mono ?_); (case side1 => repeat (first | (with_reducible first | exact HI0.out | apply IsS60.alloc | apply IsS60.drewN | apply IsS60.drew | apply IsS60.set_1) | exact HI0.out)); (case side2 => repeat (first | (with_reducible first | exact HB.out | apply below_alloc | apply pw_below_drewN | apply below_drew1 | refine below_set ?_ (IsS60.ge HI0.out)) | exact HB.out)); rintro e w20 ⟨rfl, hi, hb, hk⟩; have n0_ := Aside0.mk (Kd.R_mono (Kd.R_keep (IsS60.apart (show IsS60 w0 _ g s0_0 x1001_1 from by repeat (first | (with_reducible first | exact HI0.out | apply IsS60.alloc | apply IsS60.drewN | apply IsS60.drew | apply IsS60.set_1) | exact HI0.out)) (by (with_reducible repeat (first | apply Kd.R_alloc | apply Kd.R_drewN | apply Kd.R_drew)); exact HO_4.out) (by decide)) hk (fun _ h => h.2)) (fun _ h => h.1)); have n1_ := Aside0.mk (KeepBut.trans (by repeat (first | (with_reducible first | exact HK.out | apply KeepBut.set_ | apply keep_drewN | apply keep_drew | apply keep_alloc) | exact HK.out)) hk (.inl rfl)); have n2_ := Aside0.mk (hb); have n3_ := Aside0.mk (hi); clear HO_4; clear HK; clear HB; clear HI0; have HO_4 := n0_; have HK := n1_; have HB := n2_; have HI0 := n3_; clear n0_ n1_ n2_ n3_; (try clear hb); (try clear hb2); (try clear hk); (try clear hi); obtain ⟨ASz21_0, cSz21_0, HGz21, hgz21, HSz21_0, HCz21_0⟩ := HI0.out; have hcz21_0 := cellS60_0 HGz21; have hcz21_1 := cellS60_1 HGz21; have hfz21_1 := blk_frozen HGz21 1; clear HGz21 hgz21; have p352 : 0 ≤ (t351 : Int) := of_decide_eq_true (by first | (with_reducible assumption) | assumption); have q352 : t351 < (s0_0.length : Int) := of_decide_eq_true (by first | (with_reducible assumption) | assumption); obtain ⟨ad352, e352, hx352_0⟩ := Kd.at_int HSz21_0 t351 p352 q352; cases e352; replace hx352_0 := pw_cell_below HB.out hx352_0; replace p352 := eq_true p352; replace q352 := eq_true q352) | (go_at_call 58; (with_reducible refine (code_cursor_left.calls g s0_0 (wrap64 (t351 + 1)) 1 true t357 w0 _ ?side1 ?side2 A7.out).mono ?_); (case side1 => repeat (first | (with_reducible first | exact HI0.out | apply IsS60.alloc | apply IsS60.drewN | apply IsS60.drew | apply IsS60.set_1) | exact HI0.out)); (case side2 => repeat (first | (with_reducible first | exact HB.out | apply below_alloc | apply pw_below_drewN | apply below_drew1 | refine below_set ?_ (IsS60.ge HI0.out)) | exact HB.out)); rintro e w22 ⟨rfl, hi, hb, hk⟩; have n0_ := Aside0.mk (Kd.R_mono (Kd.R_keep (IsS60.apart (show IsS60 w0 _ g s0_0 (wrap64 (t351 + 1)) from by repeat (first | (with_reducible first | exact HI0.out | apply IsS60.alloc | apply IsS60.drewN | apply IsS60.drew | apply IsS60.set_1) | exact HI0.out)) (by (with_reducible repeat (first | apply Kd.R_alloc | apply Kd.R_drewN | apply Kd.R_drew)); exact (Kd.R_mono (Kd.R_far (p := ⟨g, 1, none⟩) (IsS60.apart HI0.out HO_4.out (by decide)) (fun _ hk => hk.2) (.int .i64 (wrap64 (t351 + 1)))) (fun _ h_ => h_.1))) (by decide)) hk (fun _ h => h.2)) (fun _ h => h.1)); have n1_ := Aside0.mk (KeepBut.trans (by repeat (first | (with_reducible first | exact HK.out | apply KeepBut.set_ | apply keep_drewN | apply keep_drew | apply keep_alloc) | exact HK.out)) hk (.inl rfl)); have n2_ := Aside0.mk (hb); have n3_ := Aside0.mk (hi); clear HO_4; clear HK; clear HB; clear HI0; have HO_4 := n0_; have HK := n1_; have HB := n2_; have HI0 := n3_; clear n0_ n1_ n2_ n3_; (try clear hb); (try clear hb2); (try clear hk); (try clear hi); obtain ⟨ASz23_0, cSz23_0, HGz23, hgz23, HSz23_0, HCz23_0⟩ := HI0.out; have hcz23_0 := cellS60_0 HGz23; have hcz23_1 := cellS60_1 HGz23; have hfz23_1 := blk_frozen HGz23 1; clear HGz23 hgz23; have p358 : 0 ≤ ((ji9) : Int) := of_decide_eq_true (by first | (with_reducible assumption) | assumption); have q358 : (ji9) < (s0_0.length : Int) := of_decide_eq_true (by first | (with_reducible assumption) | assumption); obtain ⟨ad358, e358, hx358_0⟩ := Kd.at_int HSz23_0 (ji9) p358 q358; cases e358; have hn358_0 : ad358.block ≠ g := Nat.ne_of_lt (Nat.lt_of_lt_of_le (by have := World.block_lt_of_cell? _ _ hx358_0; first | rwa [add_block] at this | exact this) (IsS60.ge HI0.out)); replace hx358_0 := pw_cell_below HB.out hx358_0; replace hx358_0 := (cell_far (p := ⟨g, 1, none⟩) (by first | (rw [add_block]; exact hn358_0) | (show (Addr.add _ _).block ≠ _; rw [add_block]; exact hn358_0) | exact hn358_0) (.int .i64 (wrap64 (t357 + 1)))).trans hx358_0; (try have hy358_0 := fun (n_ : Nat) => (show (((w22.drewN n_).setCell ⟨g, 1, none⟩ (.int .i64 (wrap64 (t357 + 1))))).cell? _ = some _ from hx358_0)); clear hn358_0; replace p358 := eq_true p358; replace q358 := eq_true q358) | ((with_reducible refine gate_builtin (b := .append) (xs := #[.tmp 57, .tmp 58]) rfl ?_); at_builtin; refine Kd.R_append (Kd.int .u8) w.heap.size rfl (.tmp 57) (.tmp 58) 31 5 (.int .u8 0) 1 rfl Tryd.underlying31 info5 rfl (by decide) (by omega) u4 x4_1 0 [.int .u8 0] (fun _ => True) (fun _ => False) rfl (by first | (go_simp; done) | (go_simp; rfl)) ?aP (fun _ hk => hk.elim) ?aF ?aO (Below.refl _ _) ?aS ?aL ?_; (case aP => exact rfl); (case aF => exact (fun _ _ => trivial)); (case aO => exact (by (with_reducible repeat (first | apply Kd.R_alloc | apply Kd.R_drewN | apply Kd.R_drew)); exact Kd.R_mono (Kd.R_far (p := ⟨g, 1, none⟩) (IsS60.apart HI0.out HO_4.out (by decide)) (fun _ hk => hk.2) (.int .i64 (wrap64 (t357 + 1)))) (fun _ hk => trivial))); (case aS => exact (keep_size (w := w) (g := g) (row := none) (by repeat (first | (with_reducible first | exact HK.out | apply KeepBut.set_ | apply keep_drewN | apply keep_drew | apply keep_alloc) | exact HK.out)))); (case aL => have := LMc19.out; omega); intro v360 w24 ho hb hg hat; rw [← Ny359.out] at ho; have n0_ := Aside0.mk (IsS60.grown (by repeat (first | (with_reducible first | exact HI0.out | apply IsS60.alloc | apply IsS60.drewN | apply IsS60.drew | apply IsS60.set_1) | exact HI0.out)) hg (IsS60.own_ne HI0.out HO_4.out (by decide))); have n1_ := Aside0.mk (below_weaken (by repeat (first | (with_reducible first | exact HB.out | apply below_alloc | apply pw_below_drewN | apply below_drew1 | refine below_set ?_ (IsS60.ge HI0.out)) | exact HB.out)) HL.out hb); have n2_ := Aside0.mk (KeepBut.trans (by repeat (first | (with_reducible first | exact HK.out | apply KeepBut.set_ | apply keep_drewN | apply keep_drew | apply keep_alloc) | exact HK.out)) (KeepBut.of_grown hg g) (Kd.R_base2 HO_4.out)); have n3_ := Aside0.mk (ho); clear HI0; clear HB; clear HK; clear HO_4; have HI0 := n0_; have HB := n1_; have HK := n2_; have HO361 := n3_; clear n0_ n1_ n2_ n3_; clear ho hb hg hat))
             repeat (go_quiet (first | (go_at_call 58; (with_reducible refine (code_cursor_left.calls g s0_0 x1001_1 1 true t351 w0 _ ?side1 ?side2 A2.out).mono ?_); (case side1 => repeat (first | (with_reducible first | exact HI0.out | apply IsS60.alloc | apply IsS60.drewN | apply IsS60.drew | apply IsS60.set_1) | exact HI0.out)); (case side2 => repeat (first | (with_reducible first | exact HB.out | apply below_alloc | apply pw_below_drewN | apply below_drew1 | refine below_set ?_ (IsS60.ge HI0.out)) | exact HB.out)); rintro e w20 ⟨rfl, hi, hb, hk⟩; have n0_ := Aside0.mk (Kd.R_mono (Kd.R_keep (IsS60.apart (show IsS60 w0 _ g s0_0 x1001_1 from by repeat (first | (with_reducible first | exact HI0.out | apply IsS60.alloc | apply IsS60.drewN | apply IsS60.drew | apply IsS60.set_1) | exact HI0.out)) (by (with_reducible repeat (first | apply Kd.R_alloc | apply Kd.R_drewN | apply Kd.R_drew)); exact HO_4.out) (by decide)) hk (fun _ h => h.2)) (fun _ h => h.1)); have n1_ := Aside0.mk (KeepBut.trans (by repeat (first | (with_reducible first | exact HK.out | apply KeepBut.set_ | apply keep_drewN | apply keep_drew | apply keep_alloc) | exact HK.out)) hk (.inl rfl)); have n2_ := Aside0.mk (hb); have n3_ := Aside0.mk (hi); clear HO_4; clear HK; clear HB; clear HI0; have HO_4 := n0_; have HK := n1_; have HB := n2_; have HI0 := n3_; clear n0_ n1_ n2_ n3_; (try clear hb); (try clear hb2); (try clear hk); (try clear hi); obtain ⟨ASz21_0, cSz21_0, HGz21, hgz21, HSz21_0, HCz21_0⟩ := HI0.out; have hcz21_0 := cellS60_0 HGz21; have hcz21_1 := cellS60_1 HGz21; have hfz21_1 := blk_frozen HGz21 1; clear HGz21 hgz21; have p352 : 0 ≤ (t351 : Int) := of_decide_eq_true (by first | (with_reducible assumption) | assumption); have q352 : t351 < (s0_0.length : Int) := of_decide_eq_true (by first | (with_reducible assumption) | assumption); obtain ⟨ad352, e352, hx352_0⟩ := Kd.at_int HSz21_0 t351 p352 q352; cases e352; replace hx352_0 := pw_cell_below HB.out hx352_0; replace p352 := eq_true p352; replace q352 := eq_true q352) | (go_at_call 58; (with_reducible refine (code_cursor_left.calls g s0_0 (wrap64 (t351 + 1)) 1 true t357 w0 _ ?side1 ?side2 A7.out).mono ?_); (case side1 => repeat (first | (with_reducible first | exact HI0.out | apply IsS60.alloc | apply IsS60.drewN | apply IsS60.drew | apply IsS60.set_1) | exact HI0.out)); (case side2 => repeat (first | (with_reducible first | exact HB.out | apply below_alloc | apply pw_below_drewN | apply below_drew1 | refine below_set ?_ (IsS60.ge HI0.out)) | exact HB.out)); rintro e w22 ⟨rfl, hi, hb, hk⟩; have n0_ := Aside0.mk (Kd.R_mono (Kd.R_keep (IsS60.apart (show IsS60 w0 _ g s0_0 (wrap64 (t351 + 1)) from by repeat (first | (with_reducible first | exact HI0.out | apply IsS60.alloc | apply IsS60.drewN | apply IsS60.drew | apply IsS60.set_1) | exact HI0.out)) (by (with_reducible repeat (first | apply Kd.R_alloc | apply Kd.R_drewN | apply Kd.R_drew)); exact (Kd.R_mono (Kd.R_far (p := ⟨g, 1, none⟩) (IsS60.apart HI0.out HO_4.out (by decide)) (fun _ hk => hk.2) (.int .i64 (wrap64 (t351 + 1)))) (fun _ h_ => h_.1))) (by decide)) hk (fun _ h => h.2)) (fun _ h => h.1)); have n1_ := Aside0.mk (KeepBut.trans (by repeat (first | (with_reducible first | exact HK.out | apply KeepBut.set_ | apply keep_drewN | apply keep_drew | apply keep_alloc) | exact HK.out)) hk (.inl rfl)); have n2_ := Aside0.mk (hb); have n3_ := Aside0.mk (hi); clear HO_4; clear HK; clear HB; clear HI0; have HO_4 := n0_; have HK := n1_; have HB := n2_; have HI0 := n3_; clear n0_ n1_ n2_ n3_; (try clear hb); (try clear hb2); (try clear hk); (try clear hi); obtain ⟨ASz23_0, cSz23_0, HGz23, hgz23, HSz23_0, HCz23_0⟩ := HI0.out; have hcz23_0 := cellS60_0 HGz23; have hcz23_1 := cellS60_1 HGz23; have hfz23_1 := blk_frozen HGz23 1; clear HGz23 hgz23; have p358 : 0 ≤ ((ji9) : Int) := of_decide_eq_true (by first | (with_reducible assumption) | assumption); have q358 : (ji9) < (s0_0.length : Int) := of_decide_eq_true (by first | (with_reducible assumption) | assumption); obtain ⟨ad358, e358, hx358_0⟩ := Kd.at_int HSz23_0 (ji9) p358 q358; cases e358; have hn358_0 : ad358.block ≠ g := Nat.ne_of_lt (Nat.lt_of_lt_of_le (by have := World.block_lt_of_cell? _ _ hx358_0; first | rwa [add_block] at this | exact this) (IsS60.ge HI0.out)); replace hx358_0 := pw_cell_below HB.out hx358_0; replace hx358_0 := (cell_far (p := ⟨g, 1, none⟩) (by first | (rw [add_block]; exact hn358_0) | (show (Addr.add _ _).block ≠ _; rw [add_block]; exact hn358_0) | exact hn358_0) (.int .i64 (wrap64 (t357 + 1)))).trans hx358_0; (try have hy358_0 := fun (n_ : Nat) => (show (((w22.drewN n_).setCell ⟨g, 1, none⟩ (.int .i64 (wrap64 (t357 + 1))))).cell? _ = some _ from hx358_0)); clear hn358_0; replace p358 := eq_true p358; replace q358 := eq_true q358) | ((with_reducible refine gate_builtin (b := .append) (xs := #[.tmp 57, .tmp 58]) rfl ?_); at_builtin; refine Kd.R_append (Kd.int .u8) w.heap.size rfl (.tmp 57) (.tmp 58) 31 5 (.int .u8 0) 1 rfl Tryd.underlying31 info5 rfl (by decide) (by omega) u4 x4_1 0 [.int .u8 0] (fun _ => True) (fun _ => False) rfl (by first | (go_simp; done) | (go_simp; rfl)) ?aP (fun _ hk => hk.elim) ?aF ?aO (Below.refl _ _) ?aS ?aL ?_; (case aP => exact rfl); (case aF => exact (fun _ _ => trivial)); (case aO => exact (by (with_reducible repeat (first | apply Kd.R_alloc | apply Kd.R_drewN | apply Kd.R_drew)); exact Kd.R_mono (Kd.R_far (p := ⟨g, 1, none⟩) (IsS60.apart HI0.out HO_4.out (by decide)) (fun _ hk => hk.2) (.int .i64 (wrap64 (t357 + 1)))) (fun _ hk => trivial))); (case aS => exact (keep_size (w := w) (g := g) (row := none) (by repeat (first | (with_reducible first | exact HK.out | apply KeepBut.set_ | apply keep_drewN | apply keep_drew | apply keep_alloc) | exact HK.out)))); (case aL => have := LMc19.out; omega); intro v360 w24 ho hb hg hat; rw [← Ny359.out] at ho; have n0_ := Aside0.mk (IsS60.grown (by repeat (first | (with_reducible first | exact HI0.out | apply IsS60.alloc | apply IsS60.drewN | apply IsS60.drew | apply IsS60.set_1) | exact HI0.out)) hg (IsS60.own_ne HI0.out HO_4.out (by decide))); have n1_ := Aside0.mk (below_weaken (by repeat (first | (with_reducible first | exact HB.out | apply below_alloc | apply pw_below_drewN | apply below_drew1 | refine below_set ?_ (IsS60.ge HI0.out)) | exact HB.out)) HL.out hb); have n2_ := Aside0.mk (KeepBut.trans (by repeat (first | (with_reducible first | exact HK.out | apply KeepBut.set_ | apply keep_drewN | apply keep_drew | apply keep_alloc) | exact HK.out)) (KeepBut.of_grown hg g) (Kd.R_base2 HO_4.out)); have n3_ := Aside0.mk (ho); clear HI0; clear HB; clear HK; clear HO_4; have HI0 := n0_; have HB := n1_; have HK := n2_; have HO361 := n3_; clear n0_ n1_ n2_ n3_; clear ho hb hg hat)); try go_wp2_with (first | (go_at_call 58; (with_reducible refine (code_cursor_left.calls g s0_0 x1001_1 1 true t351 w0 _ ?side1 ?side2 A2.out).mono ?_); (case side1 => repeat (first | (with_reducible first | exact HI0.out | apply IsS60.alloc | apply IsS60.drewN | apply IsS60.drew | apply IsS60.set_1) | exact HI0.out)); (case side2 => repeat (first | (with_reducible first | exact HB.out | apply below_alloc | apply pw_below_drewN | apply below_drew1 | refine below_set ?_ (IsS60.ge HI0.out)) | exact HB.out)); rintro e w20 ⟨rfl, hi, hb, hk⟩; have n0_ := Aside0.mk (Kd.R_mono (Kd.R_keep (IsS60.apart (show IsS60 w0 _ g s0_0 x1001_1 from by repeat (first | (with_reducible first | exact HI0.out | apply IsS60.alloc | apply IsS60.drewN | apply IsS60.drew | apply IsS60.set_1) | exact HI0.out)) (by (with_reducible repeat (first | apply Kd.R_alloc | apply Kd.R_drewN | apply Kd.R_drew)); exact HO_4.out) (by decide)) hk (fun _ h => h.2)) (fun _ h => h.1)); have n1_ := Aside0.mk (KeepBut.trans (by repeat (first | (with_reducible first | exact HK.out | apply KeepBut.set_ | apply keep_drewN | apply keep_drew | apply keep_alloc) | exact HK.out)) hk (.inl rfl)); have n2_ := Aside0.mk (hb); have n3_ := Aside0.mk (hi); clear HO_4; clear HK; clear HB; clear HI0; have HO_4 := n0_; have HK := n1_; have HB := n2_; have HI0 := n3_; clear n0_ n1_ n2_ n3_; (try clear hb); (try clear hb2); (try clear hk); (try clear hi); obtain ⟨ASz21_0, cSz21_0, HGz21, hgz21, HSz21_0, HCz21_0⟩ := HI0.out; have hcz21_0 := cellS60_0 HGz21; have hcz21_1 := cellS60_1 HGz21; have hfz21_1 := blk_frozen HGz21 1; clear HGz21 hgz21; have p352 : 0 ≤ (t351 : Int) := of_decide_eq_true (by first | (with_reducible assumption) | assumption); have q352 : t351 < (s0_0.length : Int) := of_decide_eq_true (by first | (with_reducible assumption) | assumption); obtain ⟨ad352, e352, hx352_0⟩ := Kd.at_int HSz21_0 t351 p352 q352; cases e352; replace hx352_0 := pw_cell_below HB.out hx352_0; replace p352 := eq_true p352; replace q352 := eq_true q352) | (go_at_call 58; (with_reducible refine (code_cursor_left.calls g s0_0 (wrap64 (t351 + 1)) 1 true t357 w0 _ ?side1 ?side2 A7.out).mono ?_); (case side1 => repeat (first | (with_reducible first | exact HI0.out | apply IsS60.alloc | apply IsS60.drewN | apply IsS60.drew | apply IsS60.set_1) | exact HI0.out)); (case side2 => repeat (first | (with_reducible first | exact HB.out | apply below_alloc | apply pw_below_drewN | apply below_drew1 | refine below_set ?_ (IsS60.ge HI0.out)) | exact HB.out)); rintro e w22 ⟨rfl, hi, hb, hk⟩; have n0_ := Aside0.mk (Kd.R_mono (Kd.R_keep (IsS60.apart (show IsS60 w0 _ g s0_0 (wrap64 (t351 + 1)) from by repeat (first | (with_reducible first | exact HI0.out | apply IsS60.alloc | apply IsS60.drewN | apply IsS60.drew | apply IsS60.set_1) | exact HI0.out)) (by (with_reducible repeat (first | apply Kd.R_alloc | apply Kd.R_drewN | apply Kd.R_drew)); exact (Kd.R_mono (Kd.R_far (p := ⟨g, 1, none⟩) (IsS60.apart HI0.out HO_4.out (by decide)) (fun _ hk => hk.2) (.int .i64 (wrap64 (t351 + 1)))) (fun _ h_ => h_.1))) (by decide)) hk (fun _ h => h.2)) (fun _ h => h.1)); have n1_ := Aside0.mk (KeepBut.trans (by repeat (first | (with_reducible first | exact HK.out | apply KeepBut.set_ | apply keep_drewN | apply keep_drew | apply keep_alloc) | exact HK.out)) hk (.inl rfl)); have n2_ := Aside0.mk (hb); have n3_ := Aside0.mk (hi); clear HO_4; clear HK; clear HB; clear HI0; have HO_4 := n0_; have HK := n1_; have HB := n2_; have HI0 := n3_; clear n0_ n1_ n2_ n3_; (try clear hb); (try clear hb2); (try clear hk); (try clear hi); obtain ⟨ASz23_0, cSz23_0, HGz23, hgz23, HSz23_0, HCz23_0⟩ := HI0.out; have hcz23_0 := cellS60_0 HGz23; have hcz23_1 := cellS60_1 HGz23; have hfz23_1 := blk_frozen HGz23 1; clear HGz23 hgz23; have p358 : 0 ≤ ((ji9) : Int) := of_decide_eq_true (by first | (with_reducible assumption) | assumption); have q358 : (ji9) < (s0_0.length : Int) := of_decide_eq_true (by first | (with_reducible assumption) | assumption); obtain ⟨ad358, e358, hx358_0⟩ := Kd.at_int HSz23_0 (ji9) p358 q358; cases e358; have hn358_0 : ad358.block ≠ g := Nat.ne_of_lt (Nat.lt_of_lt_of_le (by have := World.block_lt_of_cell? _ _ hx358_0; first | rwa [add_block] at this | exact this) (IsS60.ge HI0.out)); replace hx358_0 := pw_cell_below HB.out hx358_0; replace hx358_0 := (cell_far (p := ⟨g, 1, none⟩) (by first | (rw [add_block]; exact hn358_0) | (show (Addr.add _ _).block ≠ _; rw [add_block]; exact hn358_0) | exact hn358_0) (.int .i64 (wrap64 (t357 + 1)))).trans hx358_0; (try have hy358_0 := fun (n_ : Nat) => (show (((w22.drewN n_).setCell ⟨g, 1, none⟩ (.int .i64 (wrap64 (t357 + 1))))).cell? _ = some _ from hx358_0)); clear hn358_0; replace p358 := eq_true p358; replace q358 := eq_true q358) | ((with_reducible refine gate_builtin (b := .append) (xs := #[.tmp 57, .tmp 58]) rfl ?_); at_builtin; refine Kd.R_append (Kd.int .u8) w.heap.size rfl (.tmp 57) (.tmp 58) 31 5 (.int .u8 0) 1 rfl Tryd.underlying31 info5 rfl (by decide) (by omega) u4 x4_1 0 [.int .u8 0] (fun _ => True) (fun _ => False) rfl (by first | (go_simp; done) | (go_simp; rfl)) ?aP (fun _ hk => hk.elim) ?aF ?aO (Below.refl _ _) ?aS ?aL ?_; (case aP => exact rfl); (case aF => exact (fun _ _ => trivial)); (case aO => exact (by (with_reducible repeat (first | apply Kd.R_alloc | apply Kd.R_drewN | apply Kd.R_drew)); exact Kd.R_mono (Kd.R_far (p := ⟨g, 1, none⟩) (IsS60.apart HI0.out HO_4.out (by decide)) (fun _ hk => hk.2) (.int .i64 (wrap64 (t357 + 1)))) (fun _ hk => trivial))); (case aS => exact (keep_size (w := w) (g := g) (row := none) (by repeat (first | (with_reducible first | exact HK.out | apply KeepBut.set_ | apply keep_drewN | apply keep_drew | apply keep_alloc) | exact HK.out)))); (case aL => have := LMc19.out; omega); intro v360 w24 ho hb hg hat; rw [← Ny359.out] at ho; have n0_ := Aside0.mk (IsS60.grown (by repeat (first | (with_reducible first | exact HI0.out | apply IsS60.alloc | apply IsS60.drewN | apply IsS60.drew | apply IsS60.set_1) | exact HI0.out)) hg (IsS60.own_ne HI0.out HO_4.out (by decide))); have n1_ := Aside0.mk (below_weaken (by repeat (first | (with_reducible first | exact HB.out | apply below_alloc | apply pw_below_drewN | apply below_drew1 | refine below_set ?_ (IsS60.ge HI0.out)) | exact HB.out)) HL.out hb); have n2_ := Aside0.mk (KeepBut.trans (by repeat (first | (with_reducible first | exact HK.out | apply KeepBut.set_ | apply keep_drewN | apply keep_drew | apply keep_alloc) | exact HK.out)) (KeepBut.of_grown hg g) (Kd.R_base2 HO_4.out)); have n3_ := Aside0.mk (ho); clear HI0; clear HB; clear HK; clear HO_4; have HI0 := n0_; have HB := n1_; have HK := n2_; have HO361 := n3_; clear n0_ n1_ n2_ n3_; clear ho hb hg hat)))
             go_roundg k1
             case measure => have := HK1.out; omega
             case rel => exact ⟨(y359), (wrap64 (t357 + 1)), H', ⟨by have := HK1.out; omega⟩, ⟨by (with_reducible repeat (first | apply Kd.R_alloc | apply Kd.R_drewN | apply Kd.R_drew)); exact HO361.out⟩, ⟨by repeat (first | (with_reducible first | exact HI0.out | apply IsS60.alloc | apply IsS60.drewN | apply IsS60.drew | apply IsS60.set_1) | exact HI0.out)⟩, ⟨by repeat (first | (with_reducible first | exact HK.out | apply KeepBut.set_ | apply keep_drewN | apply keep_drew | apply keep_alloc) | exact HK.out)⟩, ⟨by repeat (first | (with_reducible first | exact HB.out | apply below_alloc | apply pw_below_drewN | apply below_drew1 | refine below_set ?_ (IsS60.ge HI0.out)) | exact HB.out)⟩⟩
            ·rw [if_neg c19] at H
             exact absurd H (by simp)
           ·rw [if_neg c18] at H
            have c18b0 : ((rd s0_0 (ji9)) == 255) = false := beq_eq_false_iff_ne.mpr c18
            have c18b1 : ((rd s0_0 (ji9)) != 255) = true := bne_iff_ne.mpr c18
            simp only [Option.some.injEq, Prod.mk.injEq] at H
            obtain ⟨rfl, rfl, rfl⟩ := H
            go_wp2_with (first | (go_at_call 58; (with_reducible refine (code_cursor_left.calls g s0_0 x1001_1 1 true t351 w0 _ ?side1 ?side2 A2.out).mono ?_); (case side1 => repeat (first | (with_reducible first | exact HI0.out | apply IsS60.alloc | apply IsS60.drewN | apply IsS60.drew | apply IsS60.set_1) | exact HI0.out)); (case side2 => repeat (first | (with_reducible first | exact HB.out | apply below_alloc | apply pw_below_drewN | apply below_drew1 | refine below_set ?_ (IsS60.ge HI0.out)) | exact HB.out)); rintro e w25 ⟨rfl, hi, hb, hk⟩; have n0_ := Aside0.mk (Kd.R_mono (Kd.R_keep (IsS60.apart (show IsS60 w0 _ g s0_0 x1001_1 from by repeat (first | (with_reducible first | exact HI0.out | apply IsS60.alloc | apply IsS60.drewN | apply IsS60.drew | apply IsS60.set_1) | exact HI0.out)) (by (with_reducible repeat (first | apply Kd.R_alloc | apply Kd.R_drewN | apply Kd.R_drew)); exact HO_4.out) (by decide)) hk (fun _ h => h.2)) (fun _ h => h.1)); have n1_ := Aside0.mk (KeepBut.trans (by repeat (first | (with_reducible first | exact HK.out | apply KeepBut.set_ | apply keep_drewN | apply keep_drew | apply keep_alloc) | exact HK.out)) hk (.inl rfl)); have n2_ := Aside0.mk (hb); have n3_ := Aside0.mk (hi); clear HO_4; clear HK; clear HB; clear HI0; have HO_4 := n0_; have HK := n1_; have HB := n2_; have HI0 := n3_; clear n0_ n1_ n2_ n3_; (try clear hb); (try clear hb2); (try clear hk); (try clear hi); obtain ⟨ASz26_0, cSz26_0, HGz26, hgz26, HSz26_0, HCz26_0⟩ := HI0.out; have hcz26_0 := cellS60_0 HGz26; have hcz26_1 := cellS60_1 HGz26; have hfz26_1 := blk_frozen HGz26 1; clear HGz26 hgz26; have p352 : 0 ≤ (t351 : Int) := of_decide_eq_true (by first | (with_reducible assumption) | assumption); have q352 : t351 < (s0_0.length : Int) := of_decide_eq_true (by first | (with_reducible assumption) | assumption); obtain ⟨ad352, e352, hx352_0⟩ := Kd.at_int HSz26_0 t351 p352 q352; cases e352; replace hx352_0 := pw_cell_below HB.out hx352_0; replace p352 := eq_true p352; replace q352 := eq_true q352) | (go_at_call 58; (with_reducible refine (code_cursor_left.calls g s0_0 (wrap64 (t351 + 1)) 1 true t357 w0 _ ?side1 ?side2 A7.out).mono ?_); (case side1 => repeat (first | (with_reducible first | exact HI0.out | apply IsS60.alloc | apply IsS60.drewN | apply IsS60.drew | apply IsS60.set_1) | exact HI0.out)); (case side2 => repeat (first | (with_reducible first | exact HB.out | apply below_alloc | apply pw_below_drewN | apply below_drew1 | refine below_set ?_ (IsS60.ge HI0.out)) | exact HB.out)); rintro e w27 ⟨rfl, hi, hb, hk⟩; have n0_ := Aside0.mk (Kd.R_mono (Kd.R_keep (IsS60.apart (show IsS60 w0 _ g s0_0 (wrap64 (t351 + 1)) from by repeat (first | (with_reducible first | exact HI0.out | apply IsS60.alloc | apply IsS60.drewN | apply IsS60.drew | apply IsS60.set_1) | exact HI0.out)) (by (with_reducible repeat (first | apply Kd.R_alloc | apply Kd.R_drewN | apply Kd.R_drew)); exact (Kd.R_mono (Kd.R_far (p := ⟨g, 1, none⟩) (IsS60.apart HI0.out HO_4.out (by decide)) (fun _ hk => hk.2) (.int .i64 (wrap64 (t351 + 1)))) (fun _ h_ => h_.1))) (by decide)) hk (fun _ h => h.2)) (fun _ h => h.1)); have n1_ := Aside0.mk (KeepBut.trans (by repeat (first | (with_reducible first | exact HK.out | apply KeepBut.set_ | apply keep_drewN | apply keep_drew | apply keep_alloc) | exact HK.out)) hk (.inl rfl)); have n2_ := Aside0.mk (hb); have n3_ := Aside0.mk (hi); clear HO_4; clear HK; clear HB; clear HI0; have HO_4 := n0_; have HK := n1_; have HB := n2_; have HI0 := n3_; clear n0_ n1_ n2_ n3_; (try clear hb); (try clear hb2); (try clear hk); (try clear hi); obtain ⟨ASz28_0, cSz28_0, HGz28, hgz28, HSz28_0, HCz28_0⟩ := HI0.out; have hcz28_0 := cellS60_0 HGz28; have hcz28_1 := cellS60_1 HGz28; have hfz28_1 := blk_frozen HGz28 1; clear HGz28 hgz28; have p358 : 0 ≤ ((ji9) : Int) := of_decide_eq_true (by first | (with_reducible assumption) | assumption); have q358 : (ji9) < (s0_0.length : Int) := of_decide_eq_true (by first | (with_reducible assumption) | assumption); obtain ⟨ad358, e358, hx358_0⟩ := Kd.at_int HSz28_0 (ji9) p358 q358; cases e358; have hn358_0 : ad358.block ≠ g := Nat.ne_of_lt (Nat.lt_of_lt_of_le (by have := World.block_lt_of_cell? _ _ hx358_0; first | rwa [add_block] at this | exact this) (IsS60.ge HI0.out)); replace hx358_0 := pw_cell_below HB.out hx358_0; replace hx358_0 := (cell_far (p := ⟨g, 1, none⟩) (by first | (rw [add_block]; exact hn358_0) | (show (Addr.add _ _).block ≠ _; rw [add_block]; exact hn358_0) | exact hn358_0) (.int .i64 (wrap64 (t357 + 1)))).trans hx358_0; (try have hy358_0 := fun (n_ : Nat) => (show (((w27.drewN n_).setCell ⟨g, 1, none⟩ (.int .i64 (wrap64 (t357 + 1))))).cell? _ = some _ from hx358_0)); clear hn358_0; replace p358 := eq_true p358; replace q358 := eq_true q358))
            repeat (go_quiet (first | (go_at_call 58; (with_reducible refine (code_cursor_left.calls g s0_0 x1001_1 1 true t351 w0 _ ?side1 ?side2 A2.out).mono ?_); (case side1 => repeat (first | (with_reducible first | exact HI0.out | apply IsS60.alloc | apply IsS60.drewN | apply IsS60.drew | apply IsS60.set_1) | exact HI0.out)); (case side2 => repeat (first | (with_reducible first | exact HB.out | apply below_alloc | apply pw_below_drewN | apply below_drew1 | refine below_set ?_ (IsS60.ge HI0.out)) | exact HB.out)); rintro e w25 ⟨rfl, hi, hb, hk⟩; have n0_ := Aside0.mk (Kd.R_mono (Kd.R_keep (IsS60.apart (show IsS60 w0 _ g s0_0 x1001_1 from by repeat (first | (with_reducible first | exact HI0.out | apply IsS60.alloc | apply IsS60.drewN | apply IsS60.drew | apply IsS60.set_1) | exact HI0.out)) (by (with_reducible repeat (first | apply Kd.R_alloc | apply Kd.R_drewN | apply Kd.R_drew)); exact HO_4.out) (by decide)) hk (fun _ h => h.2)) (fun _ h => h.1)); have n1_ := Aside0.mk (KeepBut.trans (by repeat (first | (with_reducible first | exact HK.out | apply KeepBut.set_ | apply keep_drewN | apply keep_drew | apply keep_alloc) | exact HK.out)) hk (.inl rfl)); have n2_ := Aside0.mk (hb); have n3_ := Aside0.mk (hi); clear HO_4; clear HK; clear HB; clear HI0; have HO_4 := n0_; have HK := n1_; have HB := n2_; have HI0 := n3_; clear n0_ n1_ n2_ n3_; (try clear hb); (try clear hb2); (try clear hk); (try clear hi); obtain ⟨ASz26_0, cSz26_0, HGz26, hgz26, HSz26_0, HCz26_0⟩ := HI0.out; have hcz26_0 := cellS60_0 HGz26; have hcz26_1 := cellS60_1 HGz26; have hfz26_1 := blk_frozen HGz26 1; clear HGz26 hgz26; have p352 : 0 ≤ (t351 : Int) := of_decide_eq_true (by first | (with_reducible assumption) | assumption); have q352 : t351 < (s0_0.length : Int) := of_decide_eq_true (by first | (with_reducible assumption) | assumption); obtain ⟨ad352, e352, hx352_0⟩ := Kd.at_int HSz26_0 t351 p352 q352; cases e352; replace hx352_0 := pw_cell_below HB.out hx352_0; replace p352 := eq_true p352; replace q352 := eq_true q352) | (go_at_call 58; (with_reducible refine (code_cursor_left.calls g s0_0 (wrap64 (t351 + 1)) 1 true t357 w0 _ ?side1 ?side2 A7.out).mono ?_); (case side1 => repeat (first | (with_reducible first | exact HI0.out | apply IsS60.alloc | apply IsS60.drewN | apply IsS60.drew | apply IsS60.set_1) | exact HI0.out)); (case side2 => repeat (first | (with_reducible first | exact HB.out | apply below_alloc | apply pw_below_drewN | apply below_drew1 | refine below_set ?_ (IsS60.ge HI0.out)) | exact HB.out)); rintro e w27 ⟨rfl, hi, hb, hk⟩; have n0_ := Aside0.mk (Kd.R_mono (Kd.R_keep (IsS60.apart (show IsS60 w0 _ g s0_0 (wrap64 (t351 + 1)) from by repeat (first | (with_reducible first | exact HI0.out | apply IsS60.alloc | apply IsS60.drewN | apply IsS60.drew | apply IsS60.set_1) | exact HI0.out)) (by (with_reducible repeat (first | apply Kd.R_alloc | apply Kd.R_drewN | apply Kd.R_drew)); exact (Kd.R_mono (Kd.R_far (p := ⟨g, 1, none⟩) (IsS60.apart HI0.out HO_4.out (by decide)) (fun _ hk => hk.2) (.int .i64 (wrap64 (t351 + 1)))) (fun _ h_ => h_.1))) (by decide)) hk (fun _ h => h.2)) (fun _ h => h.1)); have n1_ := Aside0.mk (KeepBut.trans (by repeat (first | (with_reducible first | exact HK.out | apply KeepBut.set_ | apply keep_drewN | apply keep_drew | apply keep_alloc) | exact HK.out)) hk (.inl rfl)); have n2_ := Aside0.mk (hb); have n3_ := Aside0.mk (hi); clear HO_4; clear HK; clear HB; clear HI0; have HO_4 := n0_; have HK := n1_; have HB := n2_; have HI0 := n3_; clear n0_ n1_ n2_ n3_; (try clear hb); (try clear hb2); (try clear hk); (try clear hi); obtain ⟨ASz28_0, cSz28_0, HGz28, hgz28, HSz28_0, HCz28_0⟩ := HI0.out; have hcz28_0 := cellS60_0 HGz28; have hcz28_1 := cellS60_1 HGz28; have hfz28_1 := blk_frozen HGz28 1; clear HGz28 hgz28; have p358 : 0 ≤ ((ji9) : Int) := of_decide_eq_true (by first | (with_reducible assumption) | assumption); have q358 : (ji9) < (s0_0.length : Int) := of_decide_eq_true (by first | (with_reducible assumption) | assumption); obtain ⟨ad358, e358, hx358_0⟩ := Kd.at_int HSz28_0 (ji9) p358 q358; cases e358; have hn358_0 : ad358.block ≠ g := Nat.ne_of_lt (Nat.lt_of_lt_of_le (by have := World.block_lt_of_cell? _ _ hx358_0; first | rwa [add_block] at this | exact this) (IsS60.ge HI0.out)); replace hx358_0 := pw_cell_below HB.out hx358_0; replace hx358_0 := (cell_far (p := ⟨g, 1, none⟩) (by first | (rw [add_block]; exact hn358_0) | (show (Addr.add _ _).block ≠ _; rw [add_block]; exact hn358_0) | exact hn358_0) (.int .i64 (wrap64 (t357 + 1)))).trans hx358_0; (try have hy358_0 := fun (n_ : Nat) => (show (((w27.drewN n_).setCell ⟨g, 1, none⟩ (.int .i64 (wrap64 (t357 + 1))))).cell? _ = some _ from hx358_0)); clear hn358_0; replace p358 := eq_true p358; replace q358 := eq_true q358)); try go_wp2_with (first | (go_at_call 58; (with_reducible refine (code_cursor_left.calls g s0_0 x1001_1 1 true t351 w0 _ ?side1 ?side2 A2.out).mono ?_); (case side1 => repeat (first | (with_reducible first | exact HI0.out | apply IsS60.alloc | apply IsS60.drewN | apply IsS60.drew | apply IsS60.set_1) | exact HI0.out)); (case side2 => repeat (first | (with_reducible first | exact HB.out | apply below_alloc | apply pw_below_drewN | apply below_drew1 | refine below_set ?_ (IsS60.ge HI0.out)) | exact HB.out)); rintro e w25 ⟨rfl, hi, hb, hk⟩; have n0_ := Aside0.mk (Kd.R_mono (Kd.R_keep (IsS60.apart (show IsS60 w0 _ g s0_0 x1001_1 from by repeat (first | (with_reducible first | exact HI0.out | apply IsS60.alloc | apply IsS60.drewN | apply IsS60.drew | apply IsS60.set_1) | exact HI0.out)) (by (with_reducible repeat (first | apply Kd.R_alloc | apply Kd.R_drewN | apply Kd.R_drew)); exact HO_4.out) (by decide)) hk (fun _ h => h.2)) (fun _ h => h.1)); have n1_ := Aside0.mk (KeepBut.trans (by repeat (first | (with_reducible first | exact HK.out | apply KeepBut.set_ | apply keep_drewN | apply keep_drew | apply keep_alloc) | exact HK.out)) hk (.inl rfl)); have n2_ := Aside0.mk (hb); have n3_ := Aside0.mk (hi); clear HO_4; clear HK; clear HB; clear HI0; have HO_4 := n0_; have HK := n1_; have HB := n2_; have HI0 := n3_; clear n0_ n1_ n2_ n3_; (try clear hb); (try clear hb2); (try clear hk); (try clear hi); obtain ⟨ASz26_0, cSz26_0, HGz26, hgz26, HSz26_0, HCz26_0⟩ := HI0.out; have hcz26_0 := cellS60_0 HGz26; have hcz26_1 := cellS60_1 HGz26; have hfz26_1 := blk_frozen HGz26 1; clear HGz26 hgz26; have p352 : 0 ≤ (t351 : Int) := of_decide_eq_true (by first | (with_reducible assumption) | assumption); have q352 : t351 < (s0_0.length : Int) := of_decide_eq_true (by first | (with_reducible assumption) | assumption); obtain ⟨ad352, e352, hx352_0⟩ := Kd.at_int HSz26_0 t351 p352 q352; cases e352; replace hx352_0 := pw_cell_below HB.out hx352_0; replace p352 := eq_true p352; replace q352 := eq_true q352) | (go_at_call 58; (with_reducible refine (code_cursor_left.calls g s0_0 (wrap64 (t351 + 1)) 1 true t357 w0 _ ?side1 ?side2 A7.out).mono ?_); (case side1 => repeat (first | (with_reducible first | exact HI0.out | apply IsS60.alloc | apply IsS60.drewN | apply IsS60.drew | apply IsS60.set_1) | exact HI0.out)); (case side2 => repeat (first | (with_reducible first | exact HB.out | apply below_alloc | apply pw_below_drewN | apply below_drew1 | refine below_set ?_ (IsS60.ge HI0.out)) | exact HB.out)); rintro e w27 ⟨rfl, hi, hb, hk⟩; have n0_ := Aside0.mk (Kd.R_mono (Kd.R_keep (IsS60.apart (show IsS60 w0 _ g s0_0 (wrap64 (t351 + 1)) from by repeat (first | (with_reducible first | exact HI0.out | apply IsS60.alloc | apply IsS60.drewN | apply IsS60.drew | apply IsS60.set_1) | exact HI0.out)) (by (with_reducible repeat (first | apply Kd.R_alloc | apply Kd.R_drewN | apply Kd.R_drew)); exact (Kd.R_mono (Kd.R_far (p := ⟨g, 1, none⟩) (IsS60.apart HI0.out HO_4.out (by decide)) (fun _ hk => hk.2) (.int .i64 (wrap64 (t351 + 1)))) (fun _ h_ => h_.1))) (by decide)) hk (fun _ h => h.2)) (fun _ h => h.1)); have n1_ := Aside0.mk (KeepBut.trans (by repeat (first | (with_reducible first | exact HK.out | apply KeepBut.set_ | apply keep_drewN | apply keep_drew | apply keep_alloc) | exact HK.out)) hk (.inl rfl)); have n2_ := Aside0.mk (hb); have n3_ := Aside0.mk (hi); clear HO_4; clear HK; clear HB; clear HI0; have HO_4 := n0_; have HK := n1_; have HB := n2_; have HI0 := n3_; clear n0_ n1_ n2_ n3_; (try clear hb); (try clear hb2); (try clear hk); (try clear hi); obtain ⟨ASz28_0, cSz28_0, HGz28, hgz28, HSz28_0, HCz28_0⟩ := HI0.out; have hcz28_0 := cellS60_0 HGz28; have hcz28_1 := cellS60_1 HGz28; have hfz28_1 := blk_frozen HGz28 1; clear HGz28 hgz28; have p358 : 0 ≤ ((ji9) : Int) := of_decide_eq_true (by first | (with_reducible assumption) | assumption); have q358 : (ji9) < (s0_0.length : Int) := of_decide_eq_true (by first | (with_reducible assumption) | assumption); obtain ⟨ad358, e358, hx358_0⟩ := Kd.at_int HSz28_0 (ji9) p358 q358; cases e358; have hn358_0 : ad358.block ≠ g := Nat.ne_of_lt (Nat.lt_of_lt_of_le (by have := World.block_lt_of_cell? _ _ hx358_0; first | rwa [add_block] at this | exact this) (IsS60.ge HI0.out)); replace hx358_0 := pw_cell_below HB.out hx358_0; replace hx358_0 := (cell_far (p := ⟨g, 1, none⟩) (by first | (rw [add_block]; exact hn358_0) | (show (Addr.add _ _).block ≠ _; rw [add_block]; exact hn358_0) | exact hn358_0) (.int .i64 (wrap64 (t357 + 1)))).trans hx358_0; (try have hy358_0 := fun (n_ : Nat) => (show (((w27.drewN n_).setCell ⟨g, 1, none⟩ (.int .i64 (wrap64 (t357 + 1))))).cell? _ = some _ from hx358_0)); clear hn358_0; replace p358 := eq_true p358; replace q358 := eq_true q358)))
            (try simp only [Exit.noGoto_ret])
            go_ret2
            exact ⟨by first | rfl | (simp [errW_none, errW_some] <;> rfl) | (simp only [← hji9]; first | rfl | (simp [errW_none, errW_some] <;> rfl)) | (simp [*, errW_none, errW_some] <;> rfl), by repeat (first | (with_reducible first | exact HI0.out | apply IsS60.alloc | apply IsS60.drewN | apply IsS60.drew | apply IsS60.set_1) | exact HI0.out), by repeat (first | (with_reducible first | exact HB.out | apply below_alloc | apply pw_below_drewN | apply below_drew1 | refine below_set ?_ (IsS60.ge HI0.out)) | exact HB.out), by repeat (first | (with_reducible first | exact HK.out | apply KeepBut.set_ | apply keep_drewN | apply keep_drew | apply keep_alloc) | exact HK.out)⟩
         ·rw [if_neg c11] at H
          exact absurd H (by simp)
        ·rw [if_neg c10] at H
         exact absurd H (by simp)
       ·replace c8 := Bool.eq_false_iff.mpr c8
        subst c8
        have H1 : (some ((⟨#[]⟩ : ByteArray), 11, t357)) = some (r1, r2, r3) := by rw [if_neg (show ¬ (false = true) by decide)] at H; exact H
        clear H
        have H := H1
        clear H1
        simp only [Option.some.injEq, Prod.mk.injEq] at H
        obtain ⟨rfl, rfl, rfl⟩ := H
        go_wp2_with (first | (go_at_call 58; (with_reducible refine (code_cursor_left.calls g s0_0 x1001_1 1 true t351 w0 _ ?side1 ?side2 A2.out).mono ?_); (case side1 => repeat (first | (with_reducible first | exact HI0.out | apply IsS60.alloc | apply IsS60.drewN | apply IsS60.drew | apply IsS60.set_1) | exact HI0.out)); (case side2 => repeat (first | (with_reducible first | exact HB.out | apply below_alloc | apply pw_below_drewN | apply below_drew1 | refine below_set ?_ (IsS60.ge HI0.out)) | exact HB.out)); rintro e w29 ⟨rfl, hi, hb, hk⟩; have n0_ := Aside0.mk (Kd.R_mono (Kd.R_keep (IsS60.apart (show IsS60 w0 _ g s0_0 x1001_1 from by repeat (first | (with_reducible first | exact HI0.out | apply IsS60.alloc | apply IsS60.drewN | apply IsS60.drew | apply IsS60.set_1) | exact HI0.out)) (by (with_reducible repeat (first | apply Kd.R_alloc | apply Kd.R_drewN | apply Kd.R_drew)); exact HO_4.out) (by decide)) hk (fun _ h => h.2)) (fun _ h => h.1)); have n1_ := Aside0.mk (KeepBut.trans (by repeat (first | (with_reducible first | exact HK.out | apply KeepBut.set_ | apply keep_drewN | apply keep_drew | apply keep_alloc) | exact HK.out)) hk (.inl rfl)); have n2_ := Aside0.mk (hb); have n3_ := Aside0.mk (hi); clear HO_4; clear HK; clear HB; clear HI0; have HO_4 := n0_; have HK := n1_; have HB := n2_; have HI0 := n3_; clear n0_ n1_ n2_ n3_; (try clear hb); (try clear hb2); (try clear hk); (try clear hi); obtain ⟨ASz30_0, cSz30_0, HGz30, hgz30, HSz30_0, HCz30_0⟩ := HI0.out; have hcz30_0 := cellS60_0 HGz30; have hcz30_1 := cellS60_1 HGz30; have hfz30_1 := blk_frozen HGz30 1; clear HGz30 hgz30; have p352 : 0 ≤ (t351 : Int) := of_decide_eq_true (by first | (with_reducible assumption) | assumption); have q352 : t351 < (s0_0.length : Int) := of_decide_eq_true (by first | (with_reducible assumption) | assumption); obtain ⟨ad352, e352, hx352_0⟩ := Kd.at_int HSz30_0 t351 p352 q352; cases e352; replace hx352_0 := pw_cell_below HB.out hx352_0; replace p352 := eq_true p352; replace q352 := eq_true q352) | (go_at_call 58; (with_reducible refine (code_cursor_left.calls g s0_0 (wrap64 (t351 + 1)) 1 false t357 w0 _ ?side1 ?side2 A7.out).mono ?_); (case side1 => repeat (first | (with_reducible first | exact HI0.out | apply IsS60.alloc | apply IsS60.drewN | apply IsS60.drew | apply IsS60.set_1) | exact HI0.out)); (case side2 => repeat (first | (with_reducible first | exact HB.out | apply below_alloc | apply pw_below_drewN | apply below_drew1 | refine below_set ?_ (IsS60.ge HI0.out)) | exact HB.out)); rintro e w31 ⟨rfl, hi, hb, hk⟩; have n0_ := Aside0.mk (Kd.R_mono (Kd.R_keep (IsS60.apart (show IsS60 w0 _ g s0_0 (wrap64 (t351 + 1)) from by repeat (first | (with_reducible first | exact HI0.out | apply IsS60.alloc | apply IsS60.drewN | apply IsS60.drew | apply IsS60.set_1) | exact HI0.out)) (by (with_reducible repeat (first | apply Kd.R_alloc | apply Kd.R_drewN | apply Kd.R_drew)); exact (Kd.R_mono (Kd.R_far (p := ⟨g, 1, none⟩) (IsS60.apart HI0.out HO_4.out (by decide)) (fun _ hk => hk.2) (.int .i64 (wrap64 (t351 + 1)))) (fun _ h_ => h_.1))) (by decide)) hk (fun _ h => h.2)) (fun _ h => h.1)); have n1_ := Aside0.mk (KeepBut.trans (by repeat (first | (with_reducible first | exact HK.out | apply KeepBut.set_ | apply keep_drewN | apply keep_drew | apply keep_alloc) | exact HK.out)) hk (.inl rfl)); have n2_ := Aside0.mk (hb); have n3_ := Aside0.mk (hi); clear HO_4; clear HK; clear HB; clear HI0; have HO_4 := n0_; have HK := n1_; have HB := n2_; have HI0 := n3_; clear n0_ n1_ n2_ n3_; (try clear hb); (try clear hb2); (try clear hk); (try clear hi)))
        repeat (go_quiet (first | (go_at_call 58; (with_reducible refine (code_cursor_left.calls g s0_0 x1001_1 1 true t351 w0 _ ?side1 ?side2 A2.out).mono ?_); (case side1 => repeat (first | (with_reducible first | exact HI0.out | apply IsS60.alloc | apply IsS60.drewN | apply IsS60.drew | apply IsS60.set_1) | exact HI0.out)); (case side2 => repeat (first | (with_reducible first | exact HB.out | apply below_alloc | apply pw_below_drewN | apply below_drew1 | refine below_set ?_ (IsS60.ge HI0.out)) | exact HB.out)); rintro e w29 ⟨rfl, hi, hb, hk⟩; have n0_ := Aside0.mk (Kd.R_mono (Kd.R_keep (IsS60.apart (show IsS60 w0 _ g s0_0 x1001_1 from by repeat (first | (with_reducible first | exact HI0.out | apply IsS60.alloc | apply IsS60.drewN | apply IsS60.drew | apply IsS60.set_1) | exact HI0.out)) (by (with_reducible repeat (first | apply Kd.R_alloc | apply Kd.R_drewN | apply Kd.R_drew)); exact HO_4.out) (by decide)) hk (fun _ h => h.2)) (fun _ h => h.1)); have n1_ := Aside0.mk (KeepBut.trans (by repeat (first | (with_reducible first | exact HK.out | apply KeepBut.set_ | apply keep_drewN | apply keep_drew | apply keep_alloc) | exact HK.out)) hk (.inl rfl)); have n2_ := Aside0.mk (hb); have n3_ := Aside0.mk (hi); clear HO_4; clear HK; clear HB; clear HI0; have HO_4 := n0_; have HK := n1_; have HB := n2_; have HI0 := n3_; clear n0_ n1_ n2_ n3_; (try clear hb); (try clear hb2); (try clear hk); (try clear hi); obtain ⟨ASz30_0, cSz30_0, HGz30, hgz30, HSz30_0, HCz30_0⟩ := HI0.out; have hcz30_0 := cellS60_0 HGz30; have hcz30_1 := cellS60_1 HGz30; have hfz30_1 := blk_frozen HGz30 1; clear HGz30 hgz30; have p352 : 0 ≤ (t351 : Int) := of_decide_eq_true (by first | (with_reducible assumption) | assumption); have q352 : t351 < (s0_0.length : Int) := of_decide_eq_true (by first | (with_reducible assumption) | assumption); obtain ⟨ad352, e352, hx352_0⟩ := Kd.at_int HSz30_0 t351 p352 q352; cases e352; replace hx352_0 := pw_cell_below HB.out hx352_0; replace p352 := eq_true p352; replace q352 := eq_true q352) | (go_at_call 58; (with_reducible refine (code_cursor_left.calls g s0_0 (wrap64 (t351 + 1)) 1 false t357 w0 _ ?side1 ?side2 A7.out).mono ?_); (case side1 => repeat (first | (with_reducible first | exact HI0.out | apply IsS60.alloc | apply IsS60.drewN | apply IsS60.drew | apply IsS60.set_1) | exact HI0.out)); (case side2 => repeat (first | (with_reducible first | exact HB.out | apply below_alloc | apply pw_below_drewN | apply below_drew1 | refine below_set ?_ (IsS60.ge HI0.out)) | exact HB.out)); rintro e w31 ⟨rfl, hi, hb, hk⟩; have n0_ := Aside0.mk (Kd.R_mono (Kd.R_keep (IsS60.apart (show IsS60 w0 _ g s0_0 (wrap64 (t351 + 1)) from by repeat (first | (with_reducible first | exact HI0.out | apply IsS60.alloc | apply IsS60.drewN | apply IsS60.drew | apply IsS60.set_1) | exact HI0.out)) (by (with_reducible repeat (first | apply Kd.R_alloc | apply Kd.R_drewN | apply Kd.R_drew)); exact (Kd.R_mono (Kd.R_far (p := ⟨g, 1, none⟩) (IsS60.apart HI0.out HO_4.out (by decide)) (fun _ hk => hk.2) (.int .i64 (wrap64 (t351 + 1)))) (fun _ h_ => h_.1))) (by decide)) hk (fun _ h => h.2)) (fun _ h => h.1)); have n1_ := Aside0.mk (KeepBut.trans (by repeat (first | (with_reducible first | exact HK.out | apply KeepBut.set_ | apply keep_drewN | apply keep_drew | apply keep_alloc) | exact HK.out)) hk (.inl rfl)); have n2_ := Aside0.mk (hb); have n3_ := Aside0.mk (hi); clear HO_4; clear HK; clear HB; clear HI0; have HO_4 := n0_; have HK := n1_; have HB := n2_; have HI0 := n3_; clear n0_ n1_ n2_ n3_; (try clear hb); (try clear hb2); (try clear hk); (try clear hi))); try go_wp2_with (first | (go_at_call 58; (with_reducible refine (code_cursor_left.calls g s0_0 x1001_1 1 true t351 w0 _ ?side1 ?side2 A2.out).mono ?_); (case side1 => repeat (first | (with_reducible first | exact HI0.out | apply IsS60.alloc | apply IsS60.drewN | apply IsS60.drew | apply IsS60.set_1) | exact HI0.out)); (case side2 => repeat (first | (with_reducible first | exact HB.out | apply below_alloc | apply pw_below_drewN | apply below_drew1 | refine below_set ?_ (IsS60.ge HI0.out)) | exact HB.out)); rintro e w29 ⟨rfl, hi, hb, hk⟩; have n0_ := Aside0.mk (Kd.R_mono (Kd.R_keep (IsS60.apart (show IsS60 w0 _ g s0_0 x1001_1 from by repeat (first | (with_reducible first | exact HI0.out | apply IsS60.alloc | apply IsS60.drewN | apply IsS60.drew | apply IsS60.set_1) | exact HI0.out)) (by (with_reducible repeat (first | apply Kd.R_alloc | apply Kd.R_drewN | apply Kd.R_drew)); exact HO_4.out) (by decide)) hk (fun _ h => h.2)) (fun _ h => h.1)); have n1_ := Aside0.mk (KeepBut.trans (by repeat (first | (with_reducible first | exact HK.out | apply KeepBut.set_ | apply keep_drewN | apply keep_drew | apply keep_alloc) | exact HK.out)) hk (.inl rfl)); have n2_ := Aside0.mk (hb); have n3_ := Aside0.mk (hi); clear HO_4; clear HK; clear HB; clear HI0; have HO_4 := n0_; have HK := n1_; have HB := n2_; have HI0 := n3_; clear n0_ n1_ n2_ n3_; (try clear hb); (try clear hb2); (try clear hk); (try clear hi); obtain ⟨ASz30_0, cSz30_0, HGz30, hgz30, HSz30_0, HCz30_0⟩ := HI0.out; have hcz30_0 := cellS60_0 HGz30; have hcz30_1 := cellS60_1 HGz30; have hfz30_1 := blk_frozen HGz30 1; clear HGz30 hgz30; have p352 : 0 ≤ (t351 : Int) := of_decide_eq_true (by first | (with_reducible assumption) | assumption); have q352 : t351 < (s0_0.length : Int) := of_decide_eq_true (by first | (with_reducible assumption) | assumption); obtain ⟨ad352, e352, hx352_0⟩ := Kd.at_int HSz30_0 t351 p352 q352; cases e352; replace hx352_0 := pw_cell_below HB.out hx352_0; replace p352 := eq_true p352; replace q352 := eq_true q352) | (go_at_call 58; (with_reducible refine (code_cursor_left.calls g s0_0 (wrap64 (t351 + 1)) 1 false t357 w0 _ ?side1 ?side2 A7.out).mono ?_); (case side1 => repeat (first | (with_reducible first | exact HI0.out | apply IsS60.alloc | apply IsS60.drewN | apply IsS60.drew | apply IsS60.set_1) | exact HI0.out)); (case side2 => repeat (first | (with_reducible first | exact HB.out | apply below_alloc | apply pw_below_drewN | apply below_drew1 | refine below_set ?_ (IsS60.ge HI0.out)) | exact HB.out)); rintro e w31 ⟨rfl, hi, hb, hk⟩; have n0_ := Aside0.mk (Kd.R_mono (Kd.R_keep (IsS60.apart (show IsS60 w0 _ g s0_0 (wrap64 (t351 + 1)) from by repeat (first | (with_reducible first | exact HI0.out | apply IsS60.alloc | apply IsS60.drewN | apply IsS60.drew | apply IsS60.set_1) | exact HI0.out)) (by (with_reducible repeat (first | apply Kd.R_alloc | apply Kd.R_drewN | apply Kd.R_drew)); exact (Kd.R_mono (Kd.R_far (p := ⟨g, 1, none⟩) (IsS60.apart HI0.out HO_4.out (by decide)) (fun _ hk => hk.2) (.int .i64 (wrap64 (t351 + 1)))) (fun _ h_ => h_.1))) (by decide)) hk (fun _ h => h.2)) (fun _ h => h.1)); have n1_ := Aside0.mk (KeepBut.trans (by repeat (first | (with_reducible first | exact HK.out | apply KeepBut.set_ | apply keep_drewN | apply keep_drew | apply keep_alloc) | exact HK.out)) hk (.inl rfl)); have n2_ := Aside0.mk (hb); have n3_ := Aside0.mk (hi); clear HO_4; clear HK; clear HB; clear HI0; have HO_4 := n0_; have HK := n1_; have HB := n2_; have HI0 := n3_; clear n0_ n1_ n2_ n3_; (try clear hb); (try clear hb2); (try clear hk); (try clear hi))))
        (try simp only [Exit.noGoto_ret])
        go_ret2
        exact ⟨by first | rfl | (simp [errW_none, errW_some] <;> rfl) | (simp [*, errW_none, errW_some] <;> rfl), by repeat (first | (with_reducible first | exact HI0.out | apply IsS60.alloc | apply IsS60.drewN | apply IsS60.drew | apply IsS60.set_1) | exact HI0.out), by repeat (first | (with_reducible first | exact HB.out | apply below_alloc | apply pw_below_drewN | apply below_drew1 | refine below_set ?_ (IsS60.ge HI0.out)) | exact HB.out), by repeat (first | (with_reducible first | exact HK.out | apply KeepBut.set_ | apply keep_drewN | apply keep_drew | apply keep_alloc) | exact HK.out)⟩
      ·rw [if_neg c6] at H
       have c6b0 : ((rd s0_0 t351) == 0) = false := beq_eq_false_iff_ne.mpr c6
       have c6b1 : ((rd s0_0 t351) != 0) = true := bne_iff_ne.mpr c6
       by_cases c32 : x4_1.length < 140737488355328
       ·rw [if_pos c32] at H
        have LMc32 := Aside0.mk c32
        clear c32
        obtain ⟨y353, hy353⟩ : ∃ y_ : List Int, y_ = (x4_1 ++ [rd s0_0 t351]) := ⟨_, rfl⟩
        replace H : (code_cursor_keyText.l0 k1 y353 s0_0 (wrap64 (t351 + 1))) = some (r1, r2, r3) := by first | (rw [hy353]; with_reducible exact H) | (have H2_ := (Option.bind_some _ _).symm.trans H; rw [hy353]; with_reducible exact H2_) | (have H2_ := (Option.bind_some _ _).symm.trans H; with_reducible exact H2_) | with_reducible exact H | (rw [hy353]; exact H) | exact H
        have Ny353 := Aside0.mk hy353
        clear hy353
        have H' := Aside0.mk H
        clear H
        go_wp2_with (first | (go_at_call 58; (with_reducible refine (code_cursor_left.calls g s0_0 x1001_1 1 true t351 w0 _ ?side1 ?side2 A2.out).mono ?_); (case side1 => repeat (first | (with_reducible first | exact HI0.out | apply IsS60.alloc | apply IsS60.drewN | apply IsS60.drew | apply IsS60.set_1) | exact HI0.out)); (case side2 => repeat (first | (with_reducible first | exact HB.out | apply below_alloc | apply pw_below_drewN | apply below_drew1 | refine below_set ?_ (IsS60.ge HI0.out)) | exact HB.out)); rintro e w33 ⟨rfl, hi, hb, hk⟩; have n0_ := Aside0.mk (Kd.R_mono (Kd.R_keep (IsS60.apart (show IsS60 w0 _ g s0_0 x1001_1 from by repeat (first | (with_reducible first | exact HI0.out | apply IsS60.alloc | apply IsS60.drewN | apply IsS60.drew | apply IsS60.set_1) | exact HI0.out)) (by (with_reducible repeat (first | apply Kd.R_alloc | apply Kd.R_drewN | apply Kd.R_drew)); exact HO_4.out) (by decide)) hk (fun _ h => h.2)) (fun _ h => h.1)); have n1_ := Aside0.mk (KeepBut.trans (by repeat (first | (with_reducible first | exact HK.out | apply KeepBut.set_ | apply keep_drewN | apply keep_drew | apply keep_alloc) | exact HK.out)) hk (.inl rfl)); have n2_ := Aside0.mk (hb); have n3_ := Aside0.mk (hi); clear HO_4; clear HK; clear HB; clear HI0; have HO_4 := n0_; have HK := n1_; have HB := n2_; have HI0 := n3_; clear n0_ n1_ n2_ n3_; (try clear hb); (try clear hb2); (try clear hk); (try clear hi); obtain ⟨ASz34_0, cSz34_0, HGz34, hgz34, HSz34_0, HCz34_0⟩ := HI0.out; have hcz34_0 := cellS60_0 HGz34; have hcz34_1 := cellS60_1 HGz34; have hfz34_1 := blk_frozen HGz34 1; clear HGz34 hgz34; have p352 : 0 ≤ (t351 : Int) := of_decide_eq_true (by first | (with_reducible assumption) | assumption); have q352 : t351 < (s0_0.length : Int) := of_decide_eq_true (by first | (with_reducible assumption) | assumption); obtain ⟨ad352, e352, hx352_0⟩ := Kd.at_int HSz34_0 t351 p352 q352; cases e352; replace hx352_0 := pw_cell_below HB.out hx352_0; replace p352 := eq_true p352; replace q352 := eq_true q352) | ((with_reducible refine gate_builtin (b := .append) (xs := #[.tmp 28, .tmp 30]) rfl ?_); at_builtin; refine Kd.R_append (Kd.int .u8) w.heap.size rfl (.tmp 28) (.tmp 30) 31 5 (.int .u8 0) 1 rfl Tryd.underlying31 info5 rfl (by decide) (by omega) u4 x4_1 (rd s0_0 t351) [.int .u8 (rd s0_0 t351)] (fun _ => True) (fun _ => False) rfl (by first | (go_simp; done) | (go_simp; rfl)) ?aP (fun _ hk => hk.elim) ?aF ?aO (Below.refl _ _) ?aS ?aL ?_; (case aP => exact rfl); (case aF => exact (fun _ _ => trivial)); (case aO => exact (by (with_reducible repeat (first | apply Kd.R_alloc | apply Kd.R_drewN | apply Kd.R_drew)); exact Kd.R_mono (Kd.R_far (p := ⟨g, 1, none⟩) (IsS60.apart HI0.out HO_4.out (by decide)) (fun _ hk => hk.2) (.int .i64 (wrap64 (t351 + 1)))) (fun _ hk => trivial))); (case aS => exact (keep_size (w := w) (g := g) (row := none) (by repeat (first | (with_reducible first | exact HK.out | apply KeepBut.set_ | apply keep_drewN | apply keep_drew | apply keep_alloc) | exact HK.out)))); (case aL => have := LMc32.out; omega); intro v354 w35 ho hb hg hat; rw [← Ny353.out] at ho; have n0_ := Aside0.mk (IsS60.grown (by repeat (first | (with_reducible first | exact HI0.out | apply IsS60.alloc | apply IsS60.drewN | apply IsS60.drew | apply IsS60.set_1) | exact HI0.out)) hg (IsS60.own_ne HI0.out HO_4.out (by decide))); have n1_ := Aside0.mk (below_weaken (by repeat (first | (with_reducible first | exact HB.out | apply below_alloc | apply pw_below_drewN | apply below_drew1 | refine below_set ?_ (IsS60.ge HI0.out)) | exact HB.out)) HL.out hb); have n2_ := Aside0.mk (KeepBut.trans (by repeat (first | (with_reducible first | exact HK.out | apply KeepBut.set_ | apply keep_drewN | apply keep_drew | apply keep_alloc) | exact HK.out)) (KeepBut.of_grown hg g) (Kd.R_base2 HO_4.out)); have n3_ := Aside0.mk (ho); clear HI0; clear HB; clear HK; clear HO_4; have HI0 := n0_; have HB := n1_; have HK := n2_; have HO355 := n3_; clear n0_ n1_ n2_ n3_; clear ho hb hg hat))
        repeat (go_quiet (first | (go_at_call 58; (with_reducible refine (code_cursor_left.calls g s0_0 x1001_1 1 true t351 w0 _ ?side1 ?side2 A2.out).mono ?_); (case side1 => repeat (first | (with_reducible first | exact HI0.out | apply IsS60.alloc | apply IsS60.drewN | apply IsS60.drew | apply IsS60.set_1) | exact HI0.out)); (case side2 => repeat (first | (with_reducible first | exact HB.out | apply below_alloc | apply pw_below_drewN | apply below_drew1 | refine below_set ?_ (IsS60.ge HI0.out)) | exact HB.out)); rintro e w33 ⟨rfl, hi, hb, hk⟩; have n0_ := Aside0.mk (Kd.R_mono (Kd.R_keep (IsS60.apart (show IsS60 w0 _ g s0_0 x1001_1 from by repeat (first | (with_reducible first | exact HI0.out | apply IsS60.alloc | apply IsS60.drewN | apply IsS60.drew | apply IsS60.set_1) | exact HI0.out)) (by (with_reducible repeat (first | apply Kd.R_alloc | apply Kd.R_drewN | apply Kd.R_drew)); exact HO_4.out) (by decide)) hk (fun _ h => h.2)) (fun _ h => h.1)); have n1_ := Aside0.mk (KeepBut.trans (by repeat (first | (with_reducible first | exact HK.out | apply KeepBut.set_ | apply keep_drewN | apply keep_drew | apply keep_alloc) | exact HK.out)) hk (.inl rfl)); have n2_ := Aside0.mk (hb); have n3_ := Aside0.mk (hi); clear HO_4; clear HK; clear HB; clear HI0; have HO_4 := n0_; have HK := n1_; have HB := n2_; have HI0 := n3_; clear n0_ n1_ n2_ n3_; (try clear hb); (try clear hb2); (try clear hk); (try clear hi); obtain ⟨ASz34_0, cSz34_0, HGz34, hgz34, HSz34_0, HCz34_0⟩ := HI0.out; have hcz34_0 := cellS60_0 HGz34; have hcz34_1 := cellS60_1 HGz34; have hfz34_1 := blk_frozen HGz34 1; clear HGz34 hgz34; have p352 : 0 ≤ (t351 : Int) := of_decide_eq_true (by first | (with_reducible assumption) | assumption); have q352 : t351 < (s0_0.length : Int) := of_decide_eq_true (by first | (with_reducible assumption) | assumption); obtain ⟨ad352, e352, hx352_0⟩ := Kd.at_int HSz34_0 t351 p352 q352; cases e352; replace hx352_0 := pw_cell_below HB.out hx352_0; replace p352 := eq_true p352; replace q352 := eq_true q352) | ((with_reducible refine gate_builtin (b := .append) (xs := #[.tmp 28, .tmp 30]) rfl ?_); at_builtin; refine Kd.R_append (Kd.int .u8) w.heap.size rfl (.tmp 28) (.tmp 30) 31 5 (.int .u8 0) 1 rfl Tryd.underlying31 info5 rfl (by decide) (by omega) u4 x4_1 (rd s0_0 t351) [.int .u8 (rd s0_0 t351)] (fun _ => True) (fun _ => False) rfl (by first | (go_simp; done) | (go_simp; rfl)) ?aP (fun _ hk => hk.elim) ?aF ?aO (Below.refl _ _) ?aS ?aL ?_; (case aP => exact rfl); (case aF => exact (fun _ _ => trivial)); (case aO => exact (by (with_reducible repeat (first | apply Kd.R_alloc | apply Kd.R_drewN | apply Kd.R_drew)); exact Kd.R_mono (Kd.R_far (p := ⟨g, 1, none⟩) (IsS60.apart HI0.out HO_4.out (by decide)) (fun _ hk => hk.2) (.int .i64 (wrap64 (t351 + 1)))) (fun _ hk => trivial))); (case aS => exact (keep_size (w := w) (g := g) (row := none) (by repeat (first | (with_reducible first | exact HK.out | apply KeepBut.set_ | apply keep_drewN | apply keep_drew | apply keep_alloc) | exact HK.out)))); (case aL => have := LMc32.out; omega); intro v354 w35 ho hb hg hat; rw [← Ny353.out] at ho; have n0_ := Aside0.mk (IsS60.grown (by repeat (first | (with_reducible first | exact HI0.out | apply IsS60.alloc | apply IsS60.drewN | apply IsS60.drew | apply IsS60.set_1) | exact HI0.out)) hg (IsS60.own_ne HI0.out HO_4.out (by decide))); have n1_ := Aside0.mk (below_weaken (by repeat (first | (with_reducible first | exact HB.out | apply below_alloc | apply pw_below_drewN | apply below_drew1 | refine below_set ?_ (IsS60.ge HI0.out)) | exact HB.out)) HL.out hb); have n2_ := Aside0.mk (KeepBut.trans (by repeat (first | (with_reducible first | exact HK.out | apply KeepBut.set_ | apply keep_drewN | apply keep_drew | apply keep_alloc) | exact HK.out)) (KeepBut.of_grown hg g) (Kd.R_base2 HO_4.out)); have n3_ := Aside0.mk (ho); clear HI0; clear HB; clear HK; clear HO_4; have HI0 := n0_; have HB := n1_; have HK := n2_; have HO355 := n3_; clear n0_ n1_ n2_ n3_; clear ho hb hg hat)); try go_wp2_with (first | (go_at_call 58; (with_reducible refine (code_cursor_left.calls g s0_0 x1001_1 1 true t351 w0 _ ?side1 ?side2 A2.out).mono ?_); (case side1 => repeat (first | (with_reducible first | exact HI0.out | apply IsS60.alloc | apply IsS60.drewN | apply IsS60.drew | apply IsS60.set_1) | exact HI0.out)); (case side2 => repeat (first | (with_reducible first | exact HB.out | apply below_alloc | apply pw_below_drewN | apply below_drew1 | refine below_set ?_ (IsS60.ge HI0.out)) | exact HB.out)); rintro e w33 ⟨rfl, hi, hb, hk⟩; have n0_ := Aside0.mk (Kd.R_mono (Kd.R_keep (IsS60.apart (show IsS60 w0 _ g s0_0 x1001_1 from by repeat (first | (with_reducible first | exact HI0.out | apply IsS60.alloc | apply IsS60.drewN | apply IsS60.drew | apply IsS60.set_1) | exact HI0.out)) (by (with_reducible repeat (first | apply Kd.R_alloc | apply Kd.R_drewN | apply Kd.R_drew)); exact HO_4.out) (by decide)) hk (fun _ h => h.2)) (fun _ h => h.1)); have n1_ := Aside0.mk (KeepBut.trans (by repeat (first | (with_reducible first | exact HK.out | apply KeepBut.set_ | apply keep_drewN | apply keep_drew | apply keep_alloc) | exact HK.out)) hk (.inl rfl)); have n2_ := Aside0.mk (hb); have n3_ := Aside0.mk (hi); clear HO_4; clear HK; clear HB; clear HI0; have HO_4 := n0_; have HK := n1_; have HB := n2_; have HI0 := n3_; clear n0_ n1_ n2_ n3_; (try clear hb); (try clear hb2); (try clear hk); (try clear hi); obtain ⟨ASz34_0, cSz34_0, HGz34, hgz34, HSz34_0, HCz34_0⟩ := HI0.out; have hcz34_0 := cellS60_0 HGz34; have hcz34_1 := cellS60_1 HGz34; have hfz34_1 := blk_frozen HGz34 1; clear HGz34 hgz34; have p352 : 0 ≤ (t351 : Int) := of_decide_eq_true (by first | (with_reducible assumption) | assumption); have q352 : t351 < (s0_0.length : Int) := of_decide_eq_true (by first | (with_reducible assumption) | assumption); obtain ⟨ad352, e352, hx352_0⟩ := Kd.at_int HSz34_0 t351 p352 q352; cases e352; replace hx352_0 := pw_cell_below HB.out hx352_0; replace p352 := eq_true p352; replace q352 := eq_true q352) | ((with_reducible refine gate_builtin (b := .append) (xs := #[.tmp 28, .tmp 30]) rfl ?_); at_builtin; refine Kd.R_append (Kd.int .u8) w.heap.size rfl (.tmp 28) (.tmp 30) 31 5 (.int .u8 0) 1 rfl Tryd.underlying31 info5 rfl (by decide) (by omega) u4 x4_1 (rd s0_0 t351) [.int .u8 (rd s0_0 t351)] (fun _ => True) (fun _ => False) rfl (by first | (go_simp; done) | (go_simp; rfl)) ?aP (fun _ hk => hk.elim) ?aF ?aO (Below.refl _ _) ?aS ?aL ?_; (case aP => exact rfl); (case aF => exact (fun _ _ => trivial)); (case aO => exact (by (with_reducible repeat (first | apply Kd.R_alloc | apply Kd.R_drewN | apply Kd.R_drew)); exact Kd.R_mono (Kd.R_far (p := ⟨g, 1, none⟩) (IsS60.apart HI0.out HO_4.out (by decide)) (fun _ hk => hk.2) (.int .i64 (wrap64 (t351 + 1)))) (fun _ hk => trivial))); (case aS => exact (keep_size (w := w) (g := g) (row := none) (by repeat (first | (with_reducible first | exact HK.out | apply KeepBut.set_ | apply keep_drewN | apply keep_drew | apply keep_alloc) | exact HK.out)))); (case aL => have := LMc32.out; omega); intro v354 w35 ho hb hg hat; rw [← Ny353.out] at ho; have n0_ := Aside0.mk (IsS60.grown (by repeat (first | (with_reducible first | exact HI0.out | apply IsS60.alloc | apply IsS60.drewN | apply IsS60.drew | apply IsS60.set_1) | exact HI0.out)) hg (IsS60.own_ne HI0.out HO_4.out (by decide))); have n1_ := Aside0.mk (below_weaken (by repeat (first | (with_reducible first | exact HB.out | apply below_alloc | apply pw_below_drewN | apply below_drew1 | refine below_set ?_ (IsS60.ge HI0.out)) | exact HB.out)) HL.out hb); have n2_ := Aside0.mk (KeepBut.trans (by repeat (first | (with_reducible first | exact HK.out | apply KeepBut.set_ | apply keep_drewN | apply keep_drew | apply keep_alloc) | exact HK.out)) (KeepBut.of_grown hg g) (Kd.R_base2 HO_4.out)); have n3_ := Aside0.mk (ho); clear HI0; clear HB; clear HK; clear HO_4; have HI0 := n0_; have HB := n1_; have HK := n2_; have HO355 := n3_; clear n0_ n1_ n2_ n3_; clear ho hb hg hat)))
        go_roundg k1
        case measure => have := HK1.out; omega
        case rel => exact ⟨(y353), (wrap64 (t351 + 1)), H', ⟨by have := HK1.out; omega⟩, ⟨by (with_reducible repeat (first | apply Kd.R_alloc | apply Kd.R_drewN | apply Kd.R_drew)); exact HO355.out⟩, ⟨by repeat (first | (with_reducible first | exact HI0.out | apply IsS60.alloc | apply IsS60.drewN | apply IsS60.drew | apply IsS60.set_1) | exact HI0.out)⟩, ⟨by repeat (first | (with_reducible first | exact HK.out | apply KeepBut.set_ | apply keep_drewN | apply keep_drew | apply keep_alloc) | exact HK.out)⟩, ⟨by repeat (first | (with_reducible first | exact HB.out | apply below_alloc | apply pw_below_drewN | apply below_drew1 | refine below_set ?_ (IsS60.ge HI0.out)) | exact HB.out)⟩⟩
       ·rw [if_neg c32] at H
        exact absurd H (by simp)
     ·rw [if_neg c5] at H
      exact absurd H (by simp)
    ·rw [if_neg c4] at H
     exact absurd H (by simp)
   ·replace c3 := Bool.eq_false_iff.mpr c3
    subst c3
    have H1 : (some ((⟨#[]⟩ : ByteArray), 11, t351)) = some (r1, r2, r3) := by rw [if_neg (show ¬ (false = true) by decide)] at H; exact H
    clear H
    have H := H1
    clear H1
    simp only [Option.some.injEq, Prod.mk.injEq] at H
    obtain ⟨rfl, rfl, rfl⟩ := H
    go_wp2_with (first | (go_at_call 58; (with_reducible refine (code_cursor_left.calls g s0_0 x1001_1 1 false t351 w0 _ ?side1 ?side2 A2.out).mono ?_); (case side1 => repeat (first | (with_reducible first | exact HI0.out | apply IsS60.alloc | apply IsS60.drewN | apply IsS60.drew | apply IsS60.set_1) | exact HI0.out)); (case side2 => repeat (first | (with_reducible first | exact HB.out | apply below_alloc | apply pw_below_drewN | apply below_drew1 | refine below_set ?_ (IsS60.ge HI0.out)) | exact HB.out)); rintro e w36 ⟨rfl, hi, hb, hk⟩; have n0_ := Aside0.mk (Kd.R_mono (Kd.R_keep (IsS60.apart (show IsS60 w0 _ g s0_0 x1001_1 from by repeat (first | (with_reducible first | exact HI0.out | apply IsS60.alloc | apply IsS60.drewN | apply IsS60.drew | apply IsS60.set_1) | exact HI0.out)) (by (with_reducible repeat (first | apply Kd.R_alloc | apply Kd.R_drewN | apply Kd.R_drew)); exact HO_4.out) (by decide)) hk (fun _ h => h.2)) (fun _ h => h.1)); have n1_ := Aside0.mk (KeepBut.trans (by repeat (first | (with_reducible first | exact HK.out | apply KeepBut.set_ | apply keep_drewN | apply keep_drew | apply keep_alloc) | exact HK.out)) hk (.inl rfl)); have n2_ := Aside0.mk (hb); have n3_ := Aside0.mk (hi); clear HO_4; clear HK; clear HB; clear HI0; have HO_4 := n0_; have HK := n1_; have HB := n2_; have HI0 := n3_; clear n0_ n1_ n2_ n3_; (try clear hb); (try clear hb2); (try clear hk); (try clear hi)))
    repeat (go_quiet (first | (go_at_call 58; (with_reducible refine (code_cursor_left.calls g s0_0 x1001_1 1 false t351 w0 _ ?side1 ?side2 A2.out).mono ?_); (case side1 => repeat (first | (with_reducible first | exact HI0.out | apply IsS60.alloc | apply IsS60.drewN | apply IsS60.drew | apply IsS60.set_1) | exact HI0.out)); (case side2 => repeat (first | (with_reducible first | exact HB.out | apply below_alloc | apply pw_below_drewN | apply below_drew1 | refine below_set ?_ (IsS60.ge HI0.out)) | exact HB.out)); rintro e w36 ⟨rfl, hi, hb, hk⟩; have n0_ := Aside0.mk (Kd.R_mono (Kd.R_keep (IsS60.apart (show IsS60 w0 _ g s0_0 x1001_1 from by repeat (first | (with_reducible first | exact HI0.out | apply IsS60.alloc | apply IsS60.drewN | apply IsS60.drew | apply IsS60.set_1) | exact HI0.out)) (by (with_reducible repeat (first | apply Kd.R_alloc | apply Kd.R_drewN | apply Kd.R_drew)); exact HO_4.out) (by decide)) hk (fun _ h => h.2)) (fun _ h => h.1)); have n1_ := Aside0.mk (KeepBut.trans (by repeat (first | (with_reducible first | exact HK.out | apply KeepBut.set_ | apply keep_drewN | apply keep_drew | apply keep_alloc) | exact HK.out)) hk (.inl rfl)); have n2_ := Aside0.mk (hb); have n3_ := Aside0.mk (hi); clear HO_4; clear HK; clear HB; clear HI0; have HO_4 := n0_; have HK := n1_; have HB := n2_; have HI0 := n3_; clear n0_ n1_ n2_ n3_; (try clear hb); (try clear hb2); (try clear hk); (try clear hi))); try go_wp2_with (first | (go_at_call 58; (with_reducible refine (code_cursor_left.calls g s0_0 x1001_1 1 false t351 w0 _ ?side1 ?side2 A2.out).mono ?_); (case side1 => repeat (first | (with_reducible first | exact HI0.out | apply IsS60.alloc | apply IsS60.drewN | apply IsS60.drew | apply IsS60.set_1) | exact HI0.out)); (case side2 => repeat (first | (with_reducible first | exact HB.out | apply below_alloc | apply pw_below_drewN | apply below_drew1 | refine below_set ?_ (IsS60.ge HI0.out)) | exact HB.out)); rintro e w36 ⟨rfl, hi, hb, hk⟩; have n0_ := Aside0.mk (Kd.R_mono (Kd.R_keep (IsS60.apart (show IsS60 w0 _ g s0_0 x1001_1 from by repeat (first | (with_reducible first | exact HI0.out | apply IsS60.alloc | apply IsS60.drewN | apply IsS60.drew | apply IsS60.set_1) | exact HI0.out)) (by (with_reducible repeat (first | apply Kd.R_alloc | apply Kd.R_drewN | apply Kd.R_drew)); exact HO_4.out) (by decide)) hk (fun _ h => h.2)) (fun _ h => h.1)); have n1_ := Aside0.mk (KeepBut.trans (by repeat (first | (with_reducible first | exact HK.out | apply KeepBut.set_ | apply keep_drewN | apply keep_drew | apply keep_alloc) | exact HK.out)) hk (.inl rfl)); have n2_ := Aside0.mk (hb); have n3_ := Aside0.mk (hi); clear HO_4; clear HK; clear HB; clear HI0; have HO_4 := n0_; have HK := n1_; have HB := n2_; have HI0 := n3_; clear n0_ n1_ n2_ n3_; (try clear hb); (try clear hb2); (try clear hk); (try clear hi))))
    (try simp only [Exit.noGoto_ret])
    go_ret2
    exact ⟨by first | rfl | (simp [errW_none, errW_some] <;> rfl) | (simp [*, errW_none, errW_some] <;> rfl), by repeat (first | (with_reducible first | exact HI0.out | apply IsS60.alloc | apply IsS60.drewN | apply IsS60.drew | apply IsS60.set_1) | exact HI0.out), by repeat (first | (with_reducible first | exact HB.out | apply below_alloc | apply pw_below_drewN | apply below_drew1 | refine below_set ?_ (IsS60.ge HI0.out)) | exact HB.out), by repeat (first | (with_reducible first | exact HK.out | apply KeepBut.set_ | apply keep_drewN | apply keep_drew | apply keep_alloc) | exact HK.out)⟩
end Go.Proofs.YtcheinjlgojepaaDoor.P
namespace Go.Proofs.YtcheinjlgojepaaDoor.P
open Go.RowKit Go.Proofs.YtcheinjlgojepaaDoorW.PrintWords Go.Proofs.YtcheinjlgojepaaDoorW.PrintLast Go.Proofs.YtcheinjlgojepaaDoorW.PrintMore
set_option linter.unusedVariables false
set_option linter.unusedSimpArgs false
def code_cursor_keyField.f (k : Nat) (b : List Int) (at_ : Int) (kind : Int) : Option (S29 × Int × Int) :=
  if kind = 1 ∨ kind = 2 ∨ kind = 3 then (code_cursor_keyNumber.f k b at_).bind fun t =>
    (if t.2.1 = true then (if kind = 2 then some ((⟨2, wrap64 (Go.bits .xor .u64 t.1 9223372036854775808), ⟨#[]⟩, false⟩ : S29), 0, t.2.2)
        else if 9223372036854775807 < t.1 then some ((⟨kind, 0, ⟨#[]⟩, false⟩ : S29), 10, t.2.2)
        else if kind = 3 ∧ 4294967295 < t.1 then some ((⟨kind, 0, ⟨#[]⟩, false⟩ : S29), 10, t.2.2)
        else some ((⟨kind, wrap64 t.1, ⟨#[]⟩, false⟩ : S29), 0, t.2.2))
      else some ((⟨kind, 0, ⟨#[]⟩, false⟩ : S29), 11, t.2.2))
  else if kind = 4 then (code_cursor_keyText.f k b at_).bind fun t => some ((⟨4, 0, t.1, false⟩ : S29), t.2.1, t.2.2)
  else code_cursor_field.f k b at_ kind
set_option maxHeartbeats 4000000 in
set_option maxRecDepth 100000 in
theorem kf_short1 (k g : Nat) (b : List Int) (at_ : Int) (x a1 : Int) (w0 w : World) (hI : IsS60 w0 w g b at_) (hB : Below w0.heap.size w0 w) (hn : code_cursor_keyNumber.f k b at_ = some (x, false, a1)) :
    Calls Tryd.prog 39 #[.pointer (some ⟨g, 0, none⟩), .int .i64 1] w (FieldPost w0 w g b ⟨1, 0, ⟨#[]⟩, false⟩ 11 a1) := by
  have HN := Aside0.mk hn
  clear hn
  have HI := Aside0.mk hI
  have HB := Aside0.mk hB
  clear hI hB
  have hu29 := Tryd.underlying29
  go_enter Tryd.func39, Tryd.ntmps39
  go_upto_region 2 with (fail)
  have hgl : g < w.heap.size := HI.out.lt
  obtain ⟨gr, hgr⟩ : ∃ gr, w.heap.size = gr := ⟨_, rfl⟩
  obtain ⟨gf, hgf⟩ : ∃ gf, w.heap.size + 1 = gf := ⟨_, rfl⟩
  obtain ⟨V, hV⟩ : ∃ V, ((w.alloc (Obj.cells #[.int .i64 0, .int .i64 0, .string ⟨#[]⟩, .bool false] 29)).alloc (Obj.cells #[.int .i64 1, .int .i64 0, .string ⟨#[]⟩, .bool false] 29)) = V := ⟨_, rfl⟩
  have VB : Below w.heap.size w V := by rw [← hV]; repeat (first | exact Below.refl _ _ | apply below_alloc)
  have bR : V.heap[gr]? = some (.cells #[.int .i64 0, .int .i64 0, .string ⟨#[]⟩, .bool false] 29 (0, 0)) := by rw [← hV, ← hgr]; exact blk_alloc (blk_new w _) _
  have bF : V.heap[gf]? = some (.cells #[.int .i64 1, .int .i64 0, .string ⟨#[]⟩, .bool false] 29 (0, 0)) := by
    have := blk_new (w.alloc (Obj.cells #[.int .i64 0, .int .i64 0, .string ⟨#[]⟩, .bool false] 29)) (Obj.cells #[.int .i64 1, .int .i64 0, .string ⟨#[]⟩, .bool false] 29)
    rw [World.size_alloc] at this
    rw [← hV, ← hgf]; exact this
  have HV : Aside0 (IsS60 w0 V g b at_) := ⟨HI.out.below VB⟩
  have HBV : Aside0 (Below w0.heap.size w0 V) := ⟨below_step HB.out VB⟩
  have hsz : w0.heap.size ≤ w.heap.size := HB.out.size
  have HKV : Aside0 (KeepBut w V g none) := ⟨⟨VB.size, fun i hi hne _ => VB.block i hi⟩⟩
  have hgs : gr + 2 = V.heap.size := by rw [← hV, ← hgr]; simp
  rw [hV, hgf, hgr]
  have ng1 : gr ≠ g := by omega
  have ng2 : gf ≠ g := by omega
  have ng3 : gr ≠ gf := by omega
  have ng4 : gf ≠ gr := fun e => ng3 e.symm
  have ng5 : g ≠ gr := fun e => ng1 e.symm
  have ng6 : g ≠ gf := fun e => ng2 e.symm
  have BR := Aside0.mk bR
  have BF := Aside0.mk bF
  clear hV bR bF VB HI HB
  go_upto_region 8 with (go_at_call 49; refine (code_cursor_keyNumber.calls k g b at_ x false a1 w0 V HV.out HBV.out HN.out).mono ?_; rintro e w1 ⟨rfl, hi, hb, hk⟩; have HI1 := Aside0.mk hi; have HB1 := Aside0.mk hb; have HK1 : Aside0 (KeepBut w w1 g none) := ⟨KeepBut.trans HKV.out hk (.inl rfl)⟩; have BR1 := Aside0.mk ((hk.2 gr (blk_lt BR.out) ng1 (by simp)).trans BR.out); have BF1 := Aside0.mk ((hk.2 gf (blk_lt BF.out) ng2 (by simp)).trans BF.out); clear hi hb hk HV HBV HKV BR BF)
  obtain ⟨c0, c1, c2, c3⟩ := cell29 BF1.out
  obtain ⟨d0, d1, d2, d3⟩ := blkF4 BF1.out
  obtain ⟨p0, p1, p2, p3⟩ := cell29 BR1.out
  obtain ⟨q0, q1, q2, q3⟩ := blkF4 BR1.out
  go_wp2
  refine bodyPost_ret (results_ct rfl _ _ gr 29 #[.int .i64 1, .int .i64 (0), .string ⟨#[]⟩, .bool false] (0, 0) _ rfl (by
    refine blk_put (cs := #[.int .i64 1, .int .i64 (0), .string ⟨#[]⟩, .bool false]) ?_ 3 _ rfl
    refine blk_put (cs := #[.int .i64 1, .int .i64 (0), .string ⟨#[]⟩, .bool false]) ?_ 2 _ rfl
    refine blk_put (cs := #[.int .i64 1, .int .i64 0, .string ⟨#[]⟩, .bool false]) ?_ 1 _ rfl
    refine blk_put (cs := #[.int .i64 0, .int .i64 0, .string ⟨#[]⟩, .bool false]) ?_ 0 _ rfl
    repeat (first | (with_reducible refine blk_far ?_ ng3 _) | (with_reducible refine blk_far ?_ ng1 _) | exact BR1.out)) Tryd.underlying29 rfl (by kernel_rfl)) rfl ?_
  refine ⟨rfl, ?_, ?_, ?_⟩
  · repeat (first | (with_reducible refine IsS60.far ?_ ng6 _) | (with_reducible refine IsS60.far ?_ ng5 _) | (with_reducible refine IsS60.set_1 (f1 := at_) ?_ _) | (with_reducible apply IsS60.drewN) | (with_reducible apply IsS60.drew) | (with_reducible exact HI1.out))
  · repeat (first | (with_reducible refine below_set ?_ (by omega)) | (with_reducible apply pw_below_drewN) | (with_reducible apply below_drew1) | (with_reducible exact HB1.out))
  · repeat (first | (with_reducible refine keep_far ?_ (show w.heap.size ≤ gr by omega) _) | (with_reducible refine keep_far ?_ (show w.heap.size ≤ gf by omega) _) | (with_reducible apply KeepBut.set_) | (with_reducible apply keep_drewN) | (with_reducible apply keep_drew) | (with_reducible exact HK1.out))
set_option maxHeartbeats 4000000 in
set_option maxRecDepth 100000 in
theorem kf_short2 (k g : Nat) (b : List Int) (at_ : Int) (x a1 : Int) (w0 w : World) (hI : IsS60 w0 w g b at_) (hB : Below w0.heap.size w0 w) (hn : code_cursor_keyNumber.f k b at_ = some (x, false, a1)) :
    Calls Tryd.prog 39 #[.pointer (some ⟨g, 0, none⟩), .int .i64 2] w (FieldPost w0 w g b ⟨2, 0, ⟨#[]⟩, false⟩ 11 a1) := by
  have HN := Aside0.mk hn
  clear hn
  have HI := Aside0.mk hI
  have HB := Aside0.mk hB
  clear hI hB
  have hu29 := Tryd.underlying29
  go_enter Tryd.func39, Tryd.ntmps39
  go_upto_region 2 with (fail)
  have hgl : g < w.heap.size := HI.out.lt
  obtain ⟨gr, hgr⟩ : ∃ gr, w.heap.size = gr := ⟨_, rfl⟩
  obtain ⟨gf, hgf⟩ : ∃ gf, w.heap.size + 1 = gf := ⟨_, rfl⟩
  obtain ⟨V, hV⟩ : ∃ V, ((w.alloc (Obj.cells #[.int .i64 0, .int .i64 0, .string ⟨#[]⟩, .bool false] 29)).alloc (Obj.cells #[.int .i64 2, .int .i64 0, .string ⟨#[]⟩, .bool false] 29)) = V := ⟨_, rfl⟩
  have VB : Below w.heap.size w V := by rw [← hV]; repeat (first | exact Below.refl _ _ | apply below_alloc)
  have bR : V.heap[gr]? = some (.cells #[.int .i64 0, .int .i64 0, .string ⟨#[]⟩, .bool false] 29 (0, 0)) := by rw [← hV, ← hgr]; exact blk_alloc (blk_new w _) _
  have bF : V.heap[gf]? = some (.cells #[.int .i64 2, .int .i64 0, .string ⟨#[]⟩, .bool false] 29 (0, 0)) := by
    have := blk_new (w.alloc (Obj.cells #[.int .i64 0, .int .i64 0, .string ⟨#[]⟩, .bool false] 29)) (Obj.cells #[.int .i64 2, .int .i64 0, .string ⟨#[]⟩, .bool false] 29)
    rw [World.size_alloc] at this
    rw [← hV, ← hgf]; exact this
  have HV : Aside0 (IsS60 w0 V g b at_) := ⟨HI.out.below VB⟩
  have HBV : Aside0 (Below w0.heap.size w0 V) := ⟨below_step HB.out VB⟩
  have hsz : w0.heap.size ≤ w.heap.size := HB.out.size
  have HKV : Aside0 (KeepBut w V g none) := ⟨⟨VB.size, fun i hi hne _ => VB.block i hi⟩⟩
  have hgs : gr + 2 = V.heap.size := by rw [← hV, ← hgr]; simp
  rw [hV, hgf, hgr]
  have ng1 : gr ≠ g := by omega
  have ng2 : gf ≠ g := by omega
  have ng3 : gr ≠ gf := by omega
  have ng4 : gf ≠ gr := fun e => ng3 e.symm
  have ng5 : g ≠ gr := fun e => ng1 e.symm
  have ng6 : g ≠ gf := fun e => ng2 e.symm
  have BR := Aside0.mk bR
  have BF := Aside0.mk bF
  clear hV bR bF VB HI HB
  go_upto_region 8 with (go_at_call 49; refine (code_cursor_keyNumber.calls k g b at_ x false a1 w0 V HV.out HBV.out HN.out).mono ?_; rintro e w1 ⟨rfl, hi, hb, hk⟩; have HI1 := Aside0.mk hi; have HB1 := Aside0.mk hb; have HK1 : Aside0 (KeepBut w w1 g none) := ⟨KeepBut.trans HKV.out hk (.inl rfl)⟩; have BR1 := Aside0.mk ((hk.2 gr (blk_lt BR.out) ng1 (by simp)).trans BR.out); have BF1 := Aside0.mk ((hk.2 gf (blk_lt BF.out) ng2 (by simp)).trans BF.out); clear hi hb hk HV HBV HKV BR BF)
  obtain ⟨c0, c1, c2, c3⟩ := cell29 BF1.out
  obtain ⟨d0, d1, d2, d3⟩ := blkF4 BF1.out
  obtain ⟨p0, p1, p2, p3⟩ := cell29 BR1.out
  obtain ⟨q0, q1, q2, q3⟩ := blkF4 BR1.out
  go_wp2
  refine bodyPost_ret (results_ct rfl _ _ gr 29 #[.int .i64 2, .int .i64 (0), .string ⟨#[]⟩, .bool false] (0, 0) _ rfl (by
    refine blk_put (cs := #[.int .i64 2, .int .i64 (0), .string ⟨#[]⟩, .bool false]) ?_ 3 _ rfl
    refine blk_put (cs := #[.int .i64 2, .int .i64 (0), .string ⟨#[]⟩, .bool false]) ?_ 2 _ rfl
    refine blk_put (cs := #[.int .i64 2, .int .i64 0, .string ⟨#[]⟩, .bool false]) ?_ 1 _ rfl
    refine blk_put (cs := #[.int .i64 0, .int .i64 0, .string ⟨#[]⟩, .bool false]) ?_ 0 _ rfl
    repeat (first | (with_reducible refine blk_far ?_ ng3 _) | (with_reducible refine blk_far ?_ ng1 _) | exact BR1.out)) Tryd.underlying29 rfl (by kernel_rfl)) rfl ?_
  refine ⟨rfl, ?_, ?_, ?_⟩
  · repeat (first | (with_reducible refine IsS60.far ?_ ng6 _) | (with_reducible refine IsS60.far ?_ ng5 _) | (with_reducible refine IsS60.set_1 (f1 := at_) ?_ _) | (with_reducible apply IsS60.drewN) | (with_reducible apply IsS60.drew) | (with_reducible exact HI1.out))
  · repeat (first | (with_reducible refine below_set ?_ (by omega)) | (with_reducible apply pw_below_drewN) | (with_reducible apply below_drew1) | (with_reducible exact HB1.out))
  · repeat (first | (with_reducible refine keep_far ?_ (show w.heap.size ≤ gr by omega) _) | (with_reducible refine keep_far ?_ (show w.heap.size ≤ gf by omega) _) | (with_reducible apply KeepBut.set_) | (with_reducible apply keep_drewN) | (with_reducible apply keep_drew) | (with_reducible exact HK1.out))
set_option maxHeartbeats 4000000 in
set_option maxRecDepth 100000 in
theorem kf_short3 (k g : Nat) (b : List Int) (at_ : Int) (x a1 : Int) (w0 w : World) (hI : IsS60 w0 w g b at_) (hB : Below w0.heap.size w0 w) (hn : code_cursor_keyNumber.f k b at_ = some (x, false, a1)) :
    Calls Tryd.prog 39 #[.pointer (some ⟨g, 0, none⟩), .int .i64 3] w (FieldPost w0 w g b ⟨3, 0, ⟨#[]⟩, false⟩ 11 a1) := by
  have HN := Aside0.mk hn
  clear hn
  have HI := Aside0.mk hI
  have HB := Aside0.mk hB
  clear hI hB
  have hu29 := Tryd.underlying29
  go_enter Tryd.func39, Tryd.ntmps39
  go_upto_region 2 with (fail)
  have hgl : g < w.heap.size := HI.out.lt
  obtain ⟨gr, hgr⟩ : ∃ gr, w.heap.size = gr := ⟨_, rfl⟩
  obtain ⟨gf, hgf⟩ : ∃ gf, w.heap.size + 1 = gf := ⟨_, rfl⟩
  obtain ⟨V, hV⟩ : ∃ V, ((w.alloc (Obj.cells #[.int .i64 0, .int .i64 0, .string ⟨#[]⟩, .bool false] 29)).alloc (Obj.cells #[.int .i64 3, .int .i64 0, .string ⟨#[]⟩, .bool false] 29)) = V := ⟨_, rfl⟩
  have VB : Below w.heap.size w V := by rw [← hV]; repeat (first | exact Below.refl _ _ | apply below_alloc)
  have bR : V.heap[gr]? = some (.cells #[.int .i64 0, .int .i64 0, .string ⟨#[]⟩, .bool false] 29 (0, 0)) := by rw [← hV, ← hgr]; exact blk_alloc (blk_new w _) _
  have bF : V.heap[gf]? = some (.cells #[.int .i64 3, .int .i64 0, .string ⟨#[]⟩, .bool false] 29 (0, 0)) := by
    have := blk_new (w.alloc (Obj.cells #[.int .i64 0, .int .i64 0, .string ⟨#[]⟩, .bool false] 29)) (Obj.cells #[.int .i64 3, .int .i64 0, .string ⟨#[]⟩, .bool false] 29)
    rw [World.size_alloc] at this
    rw [← hV, ← hgf]; exact this
  have HV : Aside0 (IsS60 w0 V g b at_) := ⟨HI.out.below VB⟩
  have HBV : Aside0 (Below w0.heap.size w0 V) := ⟨below_step HB.out VB⟩
  have hsz : w0.heap.size ≤ w.heap.size := HB.out.size
  have HKV : Aside0 (KeepBut w V g none) := ⟨⟨VB.size, fun i hi hne _ => VB.block i hi⟩⟩
  have hgs : gr + 2 = V.heap.size := by rw [← hV, ← hgr]; simp
  rw [hV, hgf, hgr]
  have ng1 : gr ≠ g := by omega
  have ng2 : gf ≠ g := by omega
  have ng3 : gr ≠ gf := by omega
  have ng4 : gf ≠ gr := fun e => ng3 e.symm
  have ng5 : g ≠ gr := fun e => ng1 e.symm
  have ng6 : g ≠ gf := fun e => ng2 e.symm
  have BR := Aside0.mk bR
  have BF := Aside0.mk bF
  clear hV bR bF VB HI HB
  go_upto_region 8 with (go_at_call 49; refine (code_cursor_keyNumber.calls k g b at_ x false a1 w0 V HV.out HBV.out HN.out).mono ?_; rintro e w1 ⟨rfl, hi, hb, hk⟩; have HI1 := Aside0.mk hi; have HB1 := Aside0.mk hb; have HK1 : Aside0 (KeepBut w w1 g none) := ⟨KeepBut.trans HKV.out hk (.inl rfl)⟩; have BR1 := Aside0.mk ((hk.2 gr (blk_lt BR.out) ng1 (by simp)).trans BR.out); have BF1 := Aside0.mk ((hk.2 gf (blk_lt BF.out) ng2 (by simp)).trans BF.out); clear hi hb hk HV HBV HKV BR BF)
  obtain ⟨c0, c1, c2, c3⟩ := cell29 BF1.out
  obtain ⟨d0, d1, d2, d3⟩ := blkF4 BF1.out
  obtain ⟨p0, p1, p2, p3⟩ := cell29 BR1.out
  obtain ⟨q0, q1, q2, q3⟩ := blkF4 BR1.out
  go_wp2
  refine bodyPost_ret (results_ct rfl _ _ gr 29 #[.int .i64 3, .int .i64 (0), .string ⟨#[]⟩, .bool false] (0, 0) _ rfl (by
    refine blk_put (cs := #[.int .i64 3, .int .i64 (0), .string ⟨#[]⟩, .bool false]) ?_ 3 _ rfl
    refine blk_put (cs := #[.int .i64 3, .int .i64 (0), .string ⟨#[]⟩, .bool false]) ?_ 2 _ rfl
    refine blk_put (cs := #[.int .i64 3, .int .i64 0, .string ⟨#[]⟩, .bool false]) ?_ 1 _ rfl
    refine blk_put (cs := #[.int .i64 0, .int .i64 0, .string ⟨#[]⟩, .bool false]) ?_ 0 _ rfl
    repeat (first | (with_reducible refine blk_far ?_ ng3 _) | (with_reducible refine blk_far ?_ ng1 _) | exact BR1.out)) Tryd.underlying29 rfl (by kernel_rfl)) rfl ?_
  refine ⟨rfl, ?_, ?_, ?_⟩
  · repeat (first | (with_reducible refine IsS60.far ?_ ng6 _) | (with_reducible refine IsS60.far ?_ ng5 _) | (with_reducible refine IsS60.set_1 (f1 := at_) ?_ _) | (with_reducible apply IsS60.drewN) | (with_reducible apply IsS60.drew) | (with_reducible exact HI1.out))
  · repeat (first | (with_reducible refine below_set ?_ (by omega)) | (with_reducible apply pw_below_drewN) | (with_reducible apply below_drew1) | (with_reducible exact HB1.out))
  · repeat (first | (with_reducible refine keep_far ?_ (show w.heap.size ≤ gr by omega) _) | (with_reducible refine keep_far ?_ (show w.heap.size ≤ gf by omega) _) | (with_reducible apply KeepBut.set_) | (with_reducible apply keep_drewN) | (with_reducible apply keep_drew) | (with_reducible exact HK1.out))
set_option maxHeartbeats 4000000 in
set_option maxRecDepth 100000 in
theorem kf_int (k g : Nat) (b : List Int) (at_ : Int) (x a1 : Int) (w0 w : World) (hI : IsS60 w0 w g b at_) (hB : Below w0.heap.size w0 w) (hn : code_cursor_keyNumber.f k b at_ = some (x, true, a1)) :
    Calls Tryd.prog 39 #[.pointer (some ⟨g, 0, none⟩), .int .i64 2] w (FieldPost w0 w g b ⟨2, wrap64 (Go.bits .xor .u64 x 9223372036854775808), ⟨#[]⟩, false⟩ 0 a1) := by
  have HN := Aside0.mk hn
  clear hn
  have HI := Aside0.mk hI
  have HB := Aside0.mk hB
  clear hI hB
  have hu29 := Tryd.underlying29
  go_enter Tryd.func39, Tryd.ntmps39
  go_upto_region 2 with (fail)
  have hgl : g < w.heap.size := HI.out.lt
  obtain ⟨gr, hgr⟩ : ∃ gr, w.heap.size = gr := ⟨_, rfl⟩
  obtain ⟨gf, hgf⟩ : ∃ gf, w.heap.size + 1 = gf := ⟨_, rfl⟩
  obtain ⟨V, hV⟩ : ∃ V, ((w.alloc (Obj.cells #[.int .i64 0, .int .i64 0, .string ⟨#[]⟩, .bool false] 29)).alloc (Obj.cells #[.int .i64 2, .int .i64 0, .string ⟨#[]⟩, .bool false] 29)) = V := ⟨_, rfl⟩
  have VB : Below w.heap.size w V := by rw [← hV]; repeat (first | exact Below.refl _ _ | apply below_alloc)
  have bR : V.heap[gr]? = some (.cells #[.int .i64 0, .int .i64 0, .string ⟨#[]⟩, .bool false] 29 (0, 0)) := by rw [← hV, ← hgr]; exact blk_alloc (blk_new w _) _
  have bF : V.heap[gf]? = some (.cells #[.int .i64 2, .int .i64 0, .string ⟨#[]⟩, .bool false] 29 (0, 0)) := by
    have := blk_new (w.alloc (Obj.cells #[.int .i64 0, .int .i64 0, .string ⟨#[]⟩, .bool false] 29)) (Obj.cells #[.int .i64 2, .int .i64 0, .string ⟨#[]⟩, .bool false] 29)
    rw [World.size_alloc] at this
    rw [← hV, ← hgf]; exact this
  have HV : Aside0 (IsS60 w0 V g b at_) := ⟨HI.out.below VB⟩
  have HBV : Aside0 (Below w0.heap.size w0 V) := ⟨below_step HB.out VB⟩
  have hsz : w0.heap.size ≤ w.heap.size := HB.out.size
  have HKV : Aside0 (KeepBut w V g none) := ⟨⟨VB.size, fun i hi hne _ => VB.block i hi⟩⟩
  have hgs : gr + 2 = V.heap.size := by rw [← hV, ← hgr]; simp
  rw [hV, hgf, hgr]
  have ng1 : gr ≠ g := by omega
  have ng2 : gf ≠ g := by omega
  have ng3 : gr ≠ gf := by omega
  have ng4 : gf ≠ gr := fun e => ng3 e.symm
  have ng5 : g ≠ gr := fun e => ng1 e.symm
  have ng6 : g ≠ gf := fun e => ng2 e.symm
  have BR := Aside0.mk bR
  have BF := Aside0.mk bF
  clear hV bR bF VB HI HB
  go_upto_region 8 with (go_at_call 49; refine (code_cursor_keyNumber.calls k g b at_ x true a1 w0 V HV.out HBV.out HN.out).mono ?_; rintro e w1 ⟨rfl, hi, hb, hk⟩; have HI1 := Aside0.mk hi; have HB1 := Aside0.mk hb; have HK1 : Aside0 (KeepBut w w1 g none) := ⟨KeepBut.trans HKV.out hk (.inl rfl)⟩; have BR1 := Aside0.mk ((hk.2 gr (blk_lt BR.out) ng1 (by simp)).trans BR.out); have BF1 := Aside0.mk ((hk.2 gf (blk_lt BF.out) ng2 (by simp)).trans BF.out); clear hi hb hk HV HBV HKV BR BF)
  obtain ⟨c0, c1, c2, c3⟩ := cell29 BF1.out
  obtain ⟨d0, d1, d2, d3⟩ := blkF4 BF1.out
  obtain ⟨p0, p1, p2, p3⟩ := cell29 BR1.out
  obtain ⟨q0, q1, q2, q3⟩ := blkF4 BR1.out
  go_wp2
  refine bodyPost_ret (results_ct rfl _ _ gr 29 #[.int .i64 2, .int .i64 (wrap64 (Go.bits .xor .u64 x 9223372036854775808)), .string ⟨#[]⟩, .bool false] (0, 0) _ rfl (by
    refine blk_put (cs := #[.int .i64 2, .int .i64 (wrap64 (Go.bits .xor .u64 x 9223372036854775808)), .string ⟨#[]⟩, .bool false]) ?_ 3 _ rfl
    refine blk_put (cs := #[.int .i64 2, .int .i64 (wrap64 (Go.bits .xor .u64 x 9223372036854775808)), .string ⟨#[]⟩, .bool false]) ?_ 2 _ rfl
    refine blk_put (cs := #[.int .i64 2, .int .i64 0, .string ⟨#[]⟩, .bool false]) ?_ 1 _ rfl
    refine blk_put (cs := #[.int .i64 0, .int .i64 0, .string ⟨#[]⟩, .bool false]) ?_ 0 _ rfl
    repeat (first | (with_reducible refine blk_far ?_ ng3 _) | (with_reducible refine blk_far ?_ ng1 _) | exact BR1.out)) Tryd.underlying29 rfl (by kernel_rfl)) rfl ?_
  refine ⟨rfl, ?_, ?_, ?_⟩
  · repeat (first | (with_reducible refine IsS60.far ?_ ng6 _) | (with_reducible refine IsS60.far ?_ ng5 _) | (with_reducible refine IsS60.set_1 (f1 := at_) ?_ _) | (with_reducible apply IsS60.drewN) | (with_reducible apply IsS60.drew) | (with_reducible exact HI1.out))
  · repeat (first | (with_reducible refine below_set ?_ (by omega)) | (with_reducible apply pw_below_drewN) | (with_reducible apply below_drew1) | (with_reducible exact HB1.out))
  · repeat (first | (with_reducible refine keep_far ?_ (show w.heap.size ≤ gr by omega) _) | (with_reducible refine keep_far ?_ (show w.heap.size ≤ gf by omega) _) | (with_reducible apply KeepBut.set_) | (with_reducible apply keep_drewN) | (with_reducible apply keep_drew) | (with_reducible exact HK1.out))
set_option maxHeartbeats 4000000 in
set_option maxRecDepth 100000 in
theorem kf_big1 (k g : Nat) (b : List Int) (at_ : Int) (x a1 : Int) (w0 w : World) (hI : IsS60 w0 w g b at_) (hB : Below w0.heap.size w0 w) (hn : code_cursor_keyNumber.f k b at_ = some (x, true, a1)) (hx : decide (9223372036854775807 < x) = true) :
    Calls Tryd.prog 39 #[.pointer (some ⟨g, 0, none⟩), .int .i64 1] w (FieldPost w0 w g b ⟨1, 0, ⟨#[]⟩, false⟩ 10 a1) := by
  have HN := Aside0.mk hn
  clear hn
  have HI := Aside0.mk hI
  have HB := Aside0.mk hB
  clear hI hB
  have hu29 := Tryd.underlying29
  go_enter Tryd.func39, Tryd.ntmps39
  go_upto_region 2 with (fail)
  have hgl : g < w.heap.size := HI.out.lt
  obtain ⟨gr, hgr⟩ : ∃ gr, w.heap.size = gr := ⟨_, rfl⟩
  obtain ⟨gf, hgf⟩ : ∃ gf, w.heap.size + 1 = gf := ⟨_, rfl⟩
  obtain ⟨V, hV⟩ : ∃ V, ((w.alloc (Obj.cells #[.int .i64 0, .int .i64 0, .string ⟨#[]⟩, .bool false] 29)).alloc (Obj.cells #[.int .i64 1, .int .i64 0, .string ⟨#[]⟩, .bool false] 29)) = V := ⟨_, rfl⟩
  have VB : Below w.heap.size w V := by rw [← hV]; repeat (first | exact Below.refl _ _ | apply below_alloc)
  have bR : V.heap[gr]? = some (.cells #[.int .i64 0, .int .i64 0, .string ⟨#[]⟩, .bool false] 29 (0, 0)) := by rw [← hV, ← hgr]; exact blk_alloc (blk_new w _) _
  have bF : V.heap[gf]? = some (.cells #[.int .i64 1, .int .i64 0, .string ⟨#[]⟩, .bool false] 29 (0, 0)) := by
    have := blk_new (w.alloc (Obj.cells #[.int .i64 0, .int .i64 0, .string ⟨#[]⟩, .bool false] 29)) (Obj.cells #[.int .i64 1, .int .i64 0, .string ⟨#[]⟩, .bool false] 29)
    rw [World.size_alloc] at this
    rw [← hV, ← hgf]; exact this
  have HV : Aside0 (IsS60 w0 V g b at_) := ⟨HI.out.below VB⟩
  have HBV : Aside0 (Below w0.heap.size w0 V) := ⟨below_step HB.out VB⟩
  have hsz : w0.heap.size ≤ w.heap.size := HB.out.size
  have HKV : Aside0 (KeepBut w V g none) := ⟨⟨VB.size, fun i hi hne _ => VB.block i hi⟩⟩
  have hgs : gr + 2 = V.heap.size := by rw [← hV, ← hgr]; simp
  rw [hV, hgf, hgr]
  have ng1 : gr ≠ g := by omega
  have ng2 : gf ≠ g := by omega
  have ng3 : gr ≠ gf := by omega
  have ng4 : gf ≠ gr := fun e => ng3 e.symm
  have ng5 : g ≠ gr := fun e => ng1 e.symm
  have ng6 : g ≠ gf := fun e => ng2 e.symm
  have BR := Aside0.mk bR
  have BF := Aside0.mk bF
  clear hV bR bF VB HI HB
  go_upto_region 8 with (go_at_call 49; refine (code_cursor_keyNumber.calls k g b at_ x true a1 w0 V HV.out HBV.out HN.out).mono ?_; rintro e w1 ⟨rfl, hi, hb, hk⟩; have HI1 := Aside0.mk hi; have HB1 := Aside0.mk hb; have HK1 : Aside0 (KeepBut w w1 g none) := ⟨KeepBut.trans HKV.out hk (.inl rfl)⟩; have BR1 := Aside0.mk ((hk.2 gr (blk_lt BR.out) ng1 (by simp)).trans BR.out); have BF1 := Aside0.mk ((hk.2 gf (blk_lt BF.out) ng2 (by simp)).trans BF.out); clear hi hb hk HV HBV HKV BR BF)
  obtain ⟨c0, c1, c2, c3⟩ := cell29 BF1.out
  obtain ⟨d0, d1, d2, d3⟩ := blkF4 BF1.out
  obtain ⟨p0, p1, p2, p3⟩ := cell29 BR1.out
  obtain ⟨q0, q1, q2, q3⟩ := blkF4 BR1.out
  go_wp2
  refine bodyPost_ret (results_ct rfl _ _ gr 29 #[.int .i64 1, .int .i64 (0), .string ⟨#[]⟩, .bool false] (0, 0) _ rfl (by
    refine blk_put (cs := #[.int .i64 1, .int .i64 (0), .string ⟨#[]⟩, .bool false]) ?_ 3 _ rfl
    refine blk_put (cs := #[.int .i64 1, .int .i64 (0), .string ⟨#[]⟩, .bool false]) ?_ 2 _ rfl
    refine blk_put (cs := #[.int .i64 1, .int .i64 0, .string ⟨#[]⟩, .bool false]) ?_ 1 _ rfl
    refine blk_put (cs := #[.int .i64 0, .int .i64 0, .string ⟨#[]⟩, .bool false]) ?_ 0 _ rfl
    repeat (first | (with_reducible refine blk_far ?_ ng3 _) | (with_reducible refine blk_far ?_ ng1 _) | exact BR1.out)) Tryd.underlying29 rfl (by kernel_rfl)) rfl ?_
  refine ⟨rfl, ?_, ?_, ?_⟩
  · repeat (first | (with_reducible refine IsS60.far ?_ ng6 _) | (with_reducible refine IsS60.far ?_ ng5 _) | (with_reducible refine IsS60.set_1 (f1 := at_) ?_ _) | (with_reducible apply IsS60.drewN) | (with_reducible apply IsS60.drew) | (with_reducible exact HI1.out))
  · repeat (first | (with_reducible refine below_set ?_ (by omega)) | (with_reducible apply pw_below_drewN) | (with_reducible apply below_drew1) | (with_reducible exact HB1.out))
  · repeat (first | (with_reducible refine keep_far ?_ (show w.heap.size ≤ gr by omega) _) | (with_reducible refine keep_far ?_ (show w.heap.size ≤ gf by omega) _) | (with_reducible apply KeepBut.set_) | (with_reducible apply keep_drewN) | (with_reducible apply keep_drew) | (with_reducible exact HK1.out))
set_option maxHeartbeats 4000000 in
set_option maxRecDepth 100000 in
theorem kf_big3 (k g : Nat) (b : List Int) (at_ : Int) (x a1 : Int) (w0 w : World) (hI : IsS60 w0 w g b at_) (hB : Below w0.heap.size w0 w) (hn : code_cursor_keyNumber.f k b at_ = some (x, true, a1)) (hx : decide (9223372036854775807 < x) = true) :
    Calls Tryd.prog 39 #[.pointer (some ⟨g, 0, none⟩), .int .i64 3] w (FieldPost w0 w g b ⟨3, 0, ⟨#[]⟩, false⟩ 10 a1) := by
  have HN := Aside0.mk hn
  clear hn
  have HI := Aside0.mk hI
  have HB := Aside0.mk hB
  clear hI hB
  have hu29 := Tryd.underlying29
  go_enter Tryd.func39, Tryd.ntmps39
  go_upto_region 2 with (fail)
  have hgl : g < w.heap.size := HI.out.lt
  obtain ⟨gr, hgr⟩ : ∃ gr, w.heap.size = gr := ⟨_, rfl⟩
  obtain ⟨gf, hgf⟩ : ∃ gf, w.heap.size + 1 = gf := ⟨_, rfl⟩
  obtain ⟨V, hV⟩ : ∃ V, ((w.alloc (Obj.cells #[.int .i64 0, .int .i64 0, .string ⟨#[]⟩, .bool false] 29)).alloc (Obj.cells #[.int .i64 3, .int .i64 0, .string ⟨#[]⟩, .bool false] 29)) = V := ⟨_, rfl⟩
  have VB : Below w.heap.size w V := by rw [← hV]; repeat (first | exact Below.refl _ _ | apply below_alloc)
  have bR : V.heap[gr]? = some (.cells #[.int .i64 0, .int .i64 0, .string ⟨#[]⟩, .bool false] 29 (0, 0)) := by rw [← hV, ← hgr]; exact blk_alloc (blk_new w _) _
  have bF : V.heap[gf]? = some (.cells #[.int .i64 3, .int .i64 0, .string ⟨#[]⟩, .bool false] 29 (0, 0)) := by
    have := blk_new (w.alloc (Obj.cells #[.int .i64 0, .int .i64 0, .string ⟨#[]⟩, .bool false] 29)) (Obj.cells #[.int .i64 3, .int .i64 0, .string ⟨#[]⟩, .bool false] 29)
    rw [World.size_alloc] at this
    rw [← hV, ← hgf]; exact this
  have HV : Aside0 (IsS60 w0 V g b at_) := ⟨HI.out.below VB⟩
  have HBV : Aside0 (Below w0.heap.size w0 V) := ⟨below_step HB.out VB⟩
  have hsz : w0.heap.size ≤ w.heap.size := HB.out.size
  have HKV : Aside0 (KeepBut w V g none) := ⟨⟨VB.size, fun i hi hne _ => VB.block i hi⟩⟩
  have hgs : gr + 2 = V.heap.size := by rw [← hV, ← hgr]; simp
  rw [hV, hgf, hgr]
  have ng1 : gr ≠ g := by omega
  have ng2 : gf ≠ g := by omega
  have ng3 : gr ≠ gf := by omega
  have ng4 : gf ≠ gr := fun e => ng3 e.symm
  have ng5 : g ≠ gr := fun e => ng1 e.symm
  have ng6 : g ≠ gf := fun e => ng2 e.symm
  have BR := Aside0.mk bR
  have BF := Aside0.mk bF
  clear hV bR bF VB HI HB
  go_upto_region 8 with (go_at_call 49; refine (code_cursor_keyNumber.calls k g b at_ x true a1 w0 V HV.out HBV.out HN.out).mono ?_; rintro e w1 ⟨rfl, hi, hb, hk⟩; have HI1 := Aside0.mk hi; have HB1 := Aside0.mk hb; have HK1 : Aside0 (KeepBut w w1 g none) := ⟨KeepBut.trans HKV.out hk (.inl rfl)⟩; have BR1 := Aside0.mk ((hk.2 gr (blk_lt BR.out) ng1 (by simp)).trans BR.out); have BF1 := Aside0.mk ((hk.2 gf (blk_lt BF.out) ng2 (by simp)).trans BF.out); clear hi hb hk HV HBV HKV BR BF)
  obtain ⟨c0, c1, c2, c3⟩ := cell29 BF1.out
  obtain ⟨d0, d1, d2, d3⟩ := blkF4 BF1.out
  obtain ⟨p0, p1, p2, p3⟩ := cell29 BR1.out
  obtain ⟨q0, q1, q2, q3⟩ := blkF4 BR1.out
  go_wp2
  refine bodyPost_ret (results_ct rfl _ _ gr 29 #[.int .i64 3, .int .i64 (0), .string ⟨#[]⟩, .bool false] (0, 0) _ rfl (by
    refine blk_put (cs := #[.int .i64 3, .int .i64 (0), .string ⟨#[]⟩, .bool false]) ?_ 3 _ rfl
    refine blk_put (cs := #[.int .i64 3, .int .i64 (0), .string ⟨#[]⟩, .bool false]) ?_ 2 _ rfl
    refine blk_put (cs := #[.int .i64 3, .int .i64 0, .string ⟨#[]⟩, .bool false]) ?_ 1 _ rfl
    refine blk_put (cs := #[.int .i64 0, .int .i64 0, .string ⟨#[]⟩, .bool false]) ?_ 0 _ rfl
    repeat (first | (with_reducible refine blk_far ?_ ng3 _) | (with_reducible refine blk_far ?_ ng1 _) | exact BR1.out)) Tryd.underlying29 rfl (by kernel_rfl)) rfl ?_
  refine ⟨rfl, ?_, ?_, ?_⟩
  · repeat (first | (with_reducible refine IsS60.far ?_ ng6 _) | (with_reducible refine IsS60.far ?_ ng5 _) | (with_reducible refine IsS60.set_1 (f1 := at_) ?_ _) | (with_reducible apply IsS60.drewN) | (with_reducible apply IsS60.drew) | (with_reducible exact HI1.out))
  · repeat (first | (with_reducible refine below_set ?_ (by omega)) | (with_reducible apply pw_below_drewN) | (with_reducible apply below_drew1) | (with_reducible exact HB1.out))
  · repeat (first | (with_reducible refine keep_far ?_ (show w.heap.size ≤ gr by omega) _) | (with_reducible refine keep_far ?_ (show w.heap.size ≤ gf by omega) _) | (with_reducible apply KeepBut.set_) | (with_reducible apply keep_drewN) | (with_reducible apply keep_drew) | (with_reducible exact HK1.out))
set_option maxHeartbeats 4000000 in
set_option maxRecDepth 100000 in
theorem kf_wordbig (k g : Nat) (b : List Int) (at_ : Int) (x a1 : Int) (w0 w : World) (hI : IsS60 w0 w g b at_) (hB : Below w0.heap.size w0 w) (hn : code_cursor_keyNumber.f k b at_ = some (x, true, a1)) (hx : decide (9223372036854775807 < x) = false) (hy : decide (4294967295 < x) = true) :
    Calls Tryd.prog 39 #[.pointer (some ⟨g, 0, none⟩), .int .i64 3] w (FieldPost w0 w g b ⟨3, 0, ⟨#[]⟩, false⟩ 10 a1) := by
  have HN := Aside0.mk hn
  clear hn
  have HI := Aside0.mk hI
  have HB := Aside0.mk hB
  clear hI hB
  have hu29 := Tryd.underlying29
  go_enter Tryd.func39, Tryd.ntmps39
  go_upto_region 2 with (fail)
  have hgl : g < w.heap.size := HI.out.lt
  obtain ⟨gr, hgr⟩ : ∃ gr, w.heap.size = gr := ⟨_, rfl⟩
  obtain ⟨gf, hgf⟩ : ∃ gf, w.heap.size + 1 = gf := ⟨_, rfl⟩
  obtain ⟨V, hV⟩ : ∃ V, ((w.alloc (Obj.cells #[.int .i64 0, .int .i64 0, .string ⟨#[]⟩, .bool false] 29)).alloc (Obj.cells #[.int .i64 3, .int .i64 0, .string ⟨#[]⟩, .bool false] 29)) = V := ⟨_, rfl⟩
  have VB : Below w.heap.size w V := by rw [← hV]; repeat (first | exact Below.refl _ _ | apply below_alloc)
  have bR : V.heap[gr]? = some (.cells #[.int .i64 0, .int .i64 0, .string ⟨#[]⟩, .bool false] 29 (0, 0)) := by rw [← hV, ← hgr]; exact blk_alloc (blk_new w _) _
  have bF : V.heap[gf]? = some (.cells #[.int .i64 3, .int .i64 0, .string ⟨#[]⟩, .bool false] 29 (0, 0)) := by
    have := blk_new (w.alloc (Obj.cells #[.int .i64 0, .int .i64 0, .string ⟨#[]⟩, .bool false] 29)) (Obj.cells #[.int .i64 3, .int .i64 0, .string ⟨#[]⟩, .bool false] 29)
    rw [World.size_alloc] at this
    rw [← hV, ← hgf]; exact this
  have HV : Aside0 (IsS60 w0 V g b at_) := ⟨HI.out.below VB⟩
  have HBV : Aside0 (Below w0.heap.size w0 V) := ⟨below_step HB.out VB⟩
  have hsz : w0.heap.size ≤ w.heap.size := HB.out.size
  have HKV : Aside0 (KeepBut w V g none) := ⟨⟨VB.size, fun i hi hne _ => VB.block i hi⟩⟩
  have hgs : gr + 2 = V.heap.size := by rw [← hV, ← hgr]; simp
  rw [hV, hgf, hgr]
  have ng1 : gr ≠ g := by omega
  have ng2 : gf ≠ g := by omega
  have ng3 : gr ≠ gf := by omega
  have ng4 : gf ≠ gr := fun e => ng3 e.symm
  have ng5 : g ≠ gr := fun e => ng1 e.symm
  have ng6 : g ≠ gf := fun e => ng2 e.symm
  have BR := Aside0.mk bR
  have BF := Aside0.mk bF
  clear hV bR bF VB HI HB
  go_upto_region 8 with (go_at_call 49; refine (code_cursor_keyNumber.calls k g b at_ x true a1 w0 V HV.out HBV.out HN.out).mono ?_; rintro e w1 ⟨rfl, hi, hb, hk⟩; have HI1 := Aside0.mk hi; have HB1 := Aside0.mk hb; have HK1 : Aside0 (KeepBut w w1 g none) := ⟨KeepBut.trans HKV.out hk (.inl rfl)⟩; have BR1 := Aside0.mk ((hk.2 gr (blk_lt BR.out) ng1 (by simp)).trans BR.out); have BF1 := Aside0.mk ((hk.2 gf (blk_lt BF.out) ng2 (by simp)).trans BF.out); clear hi hb hk HV HBV HKV BR BF)
  obtain ⟨c0, c1, c2, c3⟩ := cell29 BF1.out
  obtain ⟨d0, d1, d2, d3⟩ := blkF4 BF1.out
  obtain ⟨p0, p1, p2, p3⟩ := cell29 BR1.out
  obtain ⟨q0, q1, q2, q3⟩ := blkF4 BR1.out
  go_wp2
  refine bodyPost_ret (results_ct rfl _ _ gr 29 #[.int .i64 3, .int .i64 (0), .string ⟨#[]⟩, .bool false] (0, 0) _ rfl (by
    refine blk_put (cs := #[.int .i64 3, .int .i64 (0), .string ⟨#[]⟩, .bool false]) ?_ 3 _ rfl
    refine blk_put (cs := #[.int .i64 3, .int .i64 (0), .string ⟨#[]⟩, .bool false]) ?_ 2 _ rfl
    refine blk_put (cs := #[.int .i64 3, .int .i64 0, .string ⟨#[]⟩, .bool false]) ?_ 1 _ rfl
    refine blk_put (cs := #[.int .i64 0, .int .i64 0, .string ⟨#[]⟩, .bool false]) ?_ 0 _ rfl
    repeat (first | (with_reducible refine blk_far ?_ ng3 _) | (with_reducible refine blk_far ?_ ng1 _) | exact BR1.out)) Tryd.underlying29 rfl (by kernel_rfl)) rfl ?_
  refine ⟨rfl, ?_, ?_, ?_⟩
  · repeat (first | (with_reducible refine IsS60.far ?_ ng6 _) | (with_reducible refine IsS60.far ?_ ng5 _) | (with_reducible refine IsS60.set_1 (f1 := at_) ?_ _) | (with_reducible apply IsS60.drewN) | (with_reducible apply IsS60.drew) | (with_reducible exact HI1.out))
  · repeat (first | (with_reducible refine below_set ?_ (by omega)) | (with_reducible apply pw_below_drewN) | (with_reducible apply below_drew1) | (with_reducible exact HB1.out))
  · repeat (first | (with_reducible refine keep_far ?_ (show w.heap.size ≤ gr by omega) _) | (with_reducible refine keep_far ?_ (show w.heap.size ≤ gf by omega) _) | (with_reducible apply KeepBut.set_) | (with_reducible apply keep_drewN) | (with_reducible apply keep_drew) | (with_reducible exact HK1.out))
set_option maxHeartbeats 4000000 in
set_option maxRecDepth 100000 in
theorem kf_num (k g : Nat) (b : List Int) (at_ : Int) (x a1 : Int) (w0 w : World) (hI : IsS60 w0 w g b at_) (hB : Below w0.heap.size w0 w) (hn : code_cursor_keyNumber.f k b at_ = some (x, true, a1)) (hx : decide (9223372036854775807 < x) = false) :
    Calls Tryd.prog 39 #[.pointer (some ⟨g, 0, none⟩), .int .i64 1] w (FieldPost w0 w g b ⟨1, wrap64 x, ⟨#[]⟩, false⟩ 0 a1) := by
  have HN := Aside0.mk hn
  clear hn
  have HI := Aside0.mk hI
  have HB := Aside0.mk hB
  clear hI hB
  have hu29 := Tryd.underlying29
  go_enter Tryd.func39, Tryd.ntmps39
  go_upto_region 2 with (fail)
  have hgl : g < w.heap.size := HI.out.lt
  obtain ⟨gr, hgr⟩ : ∃ gr, w.heap.size = gr := ⟨_, rfl⟩
  obtain ⟨gf, hgf⟩ : ∃ gf, w.heap.size + 1 = gf := ⟨_, rfl⟩
  obtain ⟨V, hV⟩ : ∃ V, ((w.alloc (Obj.cells #[.int .i64 0, .int .i64 0, .string ⟨#[]⟩, .bool false] 29)).alloc (Obj.cells #[.int .i64 1, .int .i64 0, .string ⟨#[]⟩, .bool false] 29)) = V := ⟨_, rfl⟩
  have VB : Below w.heap.size w V := by rw [← hV]; repeat (first | exact Below.refl _ _ | apply below_alloc)
  have bR : V.heap[gr]? = some (.cells #[.int .i64 0, .int .i64 0, .string ⟨#[]⟩, .bool false] 29 (0, 0)) := by rw [← hV, ← hgr]; exact blk_alloc (blk_new w _) _
  have bF : V.heap[gf]? = some (.cells #[.int .i64 1, .int .i64 0, .string ⟨#[]⟩, .bool false] 29 (0, 0)) := by
    have := blk_new (w.alloc (Obj.cells #[.int .i64 0, .int .i64 0, .string ⟨#[]⟩, .bool false] 29)) (Obj.cells #[.int .i64 1, .int .i64 0, .string ⟨#[]⟩, .bool false] 29)
    rw [World.size_alloc] at this
    rw [← hV, ← hgf]; exact this
  have HV : Aside0 (IsS60 w0 V g b at_) := ⟨HI.out.below VB⟩
  have HBV : Aside0 (Below w0.heap.size w0 V) := ⟨below_step HB.out VB⟩
  have hsz : w0.heap.size ≤ w.heap.size := HB.out.size
  have HKV : Aside0 (KeepBut w V g none) := ⟨⟨VB.size, fun i hi hne _ => VB.block i hi⟩⟩
  have hgs : gr + 2 = V.heap.size := by rw [← hV, ← hgr]; simp
  rw [hV, hgf, hgr]
  have ng1 : gr ≠ g := by omega
  have ng2 : gf ≠ g := by omega
  have ng3 : gr ≠ gf := by omega
  have ng4 : gf ≠ gr := fun e => ng3 e.symm
  have ng5 : g ≠ gr := fun e => ng1 e.symm
  have ng6 : g ≠ gf := fun e => ng2 e.symm
  have BR := Aside0.mk bR
  have BF := Aside0.mk bF
  clear hV bR bF VB HI HB
  go_upto_region 8 with (go_at_call 49; refine (code_cursor_keyNumber.calls k g b at_ x true a1 w0 V HV.out HBV.out HN.out).mono ?_; rintro e w1 ⟨rfl, hi, hb, hk⟩; have HI1 := Aside0.mk hi; have HB1 := Aside0.mk hb; have HK1 : Aside0 (KeepBut w w1 g none) := ⟨KeepBut.trans HKV.out hk (.inl rfl)⟩; have BR1 := Aside0.mk ((hk.2 gr (blk_lt BR.out) ng1 (by simp)).trans BR.out); have BF1 := Aside0.mk ((hk.2 gf (blk_lt BF.out) ng2 (by simp)).trans BF.out); clear hi hb hk HV HBV HKV BR BF)
  obtain ⟨c0, c1, c2, c3⟩ := cell29 BF1.out
  obtain ⟨d0, d1, d2, d3⟩ := blkF4 BF1.out
  obtain ⟨p0, p1, p2, p3⟩ := cell29 BR1.out
  obtain ⟨q0, q1, q2, q3⟩ := blkF4 BR1.out
  go_wp2
  refine bodyPost_ret (results_ct rfl _ _ gr 29 #[.int .i64 1, .int .i64 (wrap64 x), .string ⟨#[]⟩, .bool false] (0, 0) _ rfl (by
    refine blk_put (cs := #[.int .i64 1, .int .i64 (wrap64 x), .string ⟨#[]⟩, .bool false]) ?_ 3 _ rfl
    refine blk_put (cs := #[.int .i64 1, .int .i64 (wrap64 x), .string ⟨#[]⟩, .bool false]) ?_ 2 _ rfl
    refine blk_put (cs := #[.int .i64 1, .int .i64 0, .string ⟨#[]⟩, .bool false]) ?_ 1 _ rfl
    refine blk_put (cs := #[.int .i64 0, .int .i64 0, .string ⟨#[]⟩, .bool false]) ?_ 0 _ rfl
    repeat (first | (with_reducible refine blk_far ?_ ng3 _) | (with_reducible refine blk_far ?_ ng1 _) | exact BR1.out)) Tryd.underlying29 rfl (by kernel_rfl)) rfl ?_
  refine ⟨rfl, ?_, ?_, ?_⟩
  · repeat (first | (with_reducible refine IsS60.far ?_ ng6 _) | (with_reducible refine IsS60.far ?_ ng5 _) | (with_reducible refine IsS60.set_1 (f1 := at_) ?_ _) | (with_reducible apply IsS60.drewN) | (with_reducible apply IsS60.drew) | (with_reducible exact HI1.out))
  · repeat (first | (with_reducible refine below_set ?_ (by omega)) | (with_reducible apply pw_below_drewN) | (with_reducible apply below_drew1) | (with_reducible exact HB1.out))
  · repeat (first | (with_reducible refine keep_far ?_ (show w.heap.size ≤ gr by omega) _) | (with_reducible refine keep_far ?_ (show w.heap.size ≤ gf by omega) _) | (with_reducible apply KeepBut.set_) | (with_reducible apply keep_drewN) | (with_reducible apply keep_drew) | (with_reducible exact HK1.out))
set_option maxHeartbeats 4000000 in
set_option maxRecDepth 100000 in
theorem kf_word (k g : Nat) (b : List Int) (at_ : Int) (x a1 : Int) (w0 w : World) (hI : IsS60 w0 w g b at_) (hB : Below w0.heap.size w0 w) (hn : code_cursor_keyNumber.f k b at_ = some (x, true, a1)) (hx : decide (9223372036854775807 < x) = false) (hy : decide (4294967295 < x) = false) :
    Calls Tryd.prog 39 #[.pointer (some ⟨g, 0, none⟩), .int .i64 3] w (FieldPost w0 w g b ⟨3, wrap64 x, ⟨#[]⟩, false⟩ 0 a1) := by
  have HN := Aside0.mk hn
  clear hn
  have HI := Aside0.mk hI
  have HB := Aside0.mk hB
  clear hI hB
  have hu29 := Tryd.underlying29
  go_enter Tryd.func39, Tryd.ntmps39
  go_upto_region 2 with (fail)
  have hgl : g < w.heap.size := HI.out.lt
  obtain ⟨gr, hgr⟩ : ∃ gr, w.heap.size = gr := ⟨_, rfl⟩
  obtain ⟨gf, hgf⟩ : ∃ gf, w.heap.size + 1 = gf := ⟨_, rfl⟩
  obtain ⟨V, hV⟩ : ∃ V, ((w.alloc (Obj.cells #[.int .i64 0, .int .i64 0, .string ⟨#[]⟩, .bool false] 29)).alloc (Obj.cells #[.int .i64 3, .int .i64 0, .string ⟨#[]⟩, .bool false] 29)) = V := ⟨_, rfl⟩
  have VB : Below w.heap.size w V := by rw [← hV]; repeat (first | exact Below.refl _ _ | apply below_alloc)
  have bR : V.heap[gr]? = some (.cells #[.int .i64 0, .int .i64 0, .string ⟨#[]⟩, .bool false] 29 (0, 0)) := by rw [← hV, ← hgr]; exact blk_alloc (blk_new w _) _
  have bF : V.heap[gf]? = some (.cells #[.int .i64 3, .int .i64 0, .string ⟨#[]⟩, .bool false] 29 (0, 0)) := by
    have := blk_new (w.alloc (Obj.cells #[.int .i64 0, .int .i64 0, .string ⟨#[]⟩, .bool false] 29)) (Obj.cells #[.int .i64 3, .int .i64 0, .string ⟨#[]⟩, .bool false] 29)
    rw [World.size_alloc] at this
    rw [← hV, ← hgf]; exact this
  have HV : Aside0 (IsS60 w0 V g b at_) := ⟨HI.out.below VB⟩
  have HBV : Aside0 (Below w0.heap.size w0 V) := ⟨below_step HB.out VB⟩
  have hsz : w0.heap.size ≤ w.heap.size := HB.out.size
  have HKV : Aside0 (KeepBut w V g none) := ⟨⟨VB.size, fun i hi hne _ => VB.block i hi⟩⟩
  have hgs : gr + 2 = V.heap.size := by rw [← hV, ← hgr]; simp
  rw [hV, hgf, hgr]
  have ng1 : gr ≠ g := by omega
  have ng2 : gf ≠ g := by omega
  have ng3 : gr ≠ gf := by omega
  have ng4 : gf ≠ gr := fun e => ng3 e.symm
  have ng5 : g ≠ gr := fun e => ng1 e.symm
  have ng6 : g ≠ gf := fun e => ng2 e.symm
  have BR := Aside0.mk bR
  have BF := Aside0.mk bF
  clear hV bR bF VB HI HB
  go_upto_region 8 with (go_at_call 49; refine (code_cursor_keyNumber.calls k g b at_ x true a1 w0 V HV.out HBV.out HN.out).mono ?_; rintro e w1 ⟨rfl, hi, hb, hk⟩; have HI1 := Aside0.mk hi; have HB1 := Aside0.mk hb; have HK1 : Aside0 (KeepBut w w1 g none) := ⟨KeepBut.trans HKV.out hk (.inl rfl)⟩; have BR1 := Aside0.mk ((hk.2 gr (blk_lt BR.out) ng1 (by simp)).trans BR.out); have BF1 := Aside0.mk ((hk.2 gf (blk_lt BF.out) ng2 (by simp)).trans BF.out); clear hi hb hk HV HBV HKV BR BF)
  obtain ⟨c0, c1, c2, c3⟩ := cell29 BF1.out
  obtain ⟨d0, d1, d2, d3⟩ := blkF4 BF1.out
  obtain ⟨p0, p1, p2, p3⟩ := cell29 BR1.out
  obtain ⟨q0, q1, q2, q3⟩ := blkF4 BR1.out
  go_wp2
  refine bodyPost_ret (results_ct rfl _ _ gr 29 #[.int .i64 3, .int .i64 (wrap64 x), .string ⟨#[]⟩, .bool false] (0, 0) _ rfl (by
    refine blk_put (cs := #[.int .i64 3, .int .i64 (wrap64 x), .string ⟨#[]⟩, .bool false]) ?_ 3 _ rfl
    refine blk_put (cs := #[.int .i64 3, .int .i64 (wrap64 x), .string ⟨#[]⟩, .bool false]) ?_ 2 _ rfl
    refine blk_put (cs := #[.int .i64 3, .int .i64 0, .string ⟨#[]⟩, .bool false]) ?_ 1 _ rfl
    refine blk_put (cs := #[.int .i64 0, .int .i64 0, .string ⟨#[]⟩, .bool false]) ?_ 0 _ rfl
    repeat (first | (with_reducible refine blk_far ?_ ng3 _) | (with_reducible refine blk_far ?_ ng1 _) | exact BR1.out)) Tryd.underlying29 rfl (by kernel_rfl)) rfl ?_
  refine ⟨rfl, ?_, ?_, ?_⟩
  · repeat (first | (with_reducible refine IsS60.far ?_ ng6 _) | (with_reducible refine IsS60.far ?_ ng5 _) | (with_reducible refine IsS60.set_1 (f1 := at_) ?_ _) | (with_reducible apply IsS60.drewN) | (with_reducible apply IsS60.drew) | (with_reducible exact HI1.out))
  · repeat (first | (with_reducible refine below_set ?_ (by omega)) | (with_reducible apply pw_below_drewN) | (with_reducible apply below_drew1) | (with_reducible exact HB1.out))
  · repeat (first | (with_reducible refine keep_far ?_ (show w.heap.size ≤ gr by omega) _) | (with_reducible refine keep_far ?_ (show w.heap.size ≤ gf by omega) _) | (with_reducible apply KeepBut.set_) | (with_reducible apply keep_drewN) | (with_reducible apply keep_drew) | (with_reducible exact HK1.out))
set_option maxHeartbeats 4000000 in
set_option maxRecDepth 100000 in
theorem kf_text (k g : Nat) (b : List Int) (at_ : Int) (s : ByteArray) (e1 a1 : Int) (w0 w : World) (hI : IsS60 w0 w g b at_) (hB : Below w0.heap.size w0 w) (hn : code_cursor_keyText.f k b at_ = some (s, e1, a1)) :
    Calls Tryd.prog 39 #[.pointer (some ⟨g, 0, none⟩), .int .i64 4] w (FieldPost w0 w g b ⟨4, 0, s, false⟩ e1 a1) := by
  have HN := Aside0.mk hn
  clear hn
  have HI := Aside0.mk hI
  have HB := Aside0.mk hB
  clear hI hB
  have hu29 := Tryd.underlying29
  go_enter Tryd.func39, Tryd.ntmps39
  go_upto_region 2 with (fail)
  have hgl : g < w.heap.size := HI.out.lt
  obtain ⟨gr, hgr⟩ : ∃ gr, w.heap.size = gr := ⟨_, rfl⟩
  obtain ⟨gf, hgf⟩ : ∃ gf, w.heap.size + 1 = gf := ⟨_, rfl⟩
  obtain ⟨V, hV⟩ : ∃ V, ((w.alloc (Obj.cells #[.int .i64 0, .int .i64 0, .string ⟨#[]⟩, .bool false] 29)).alloc (Obj.cells #[.int .i64 4, .int .i64 0, .string ⟨#[]⟩, .bool false] 29)) = V := ⟨_, rfl⟩
  have VB : Below w.heap.size w V := by rw [← hV]; repeat (first | exact Below.refl _ _ | apply below_alloc)
  have bR : V.heap[gr]? = some (.cells #[.int .i64 0, .int .i64 0, .string ⟨#[]⟩, .bool false] 29 (0, 0)) := by rw [← hV, ← hgr]; exact blk_alloc (blk_new w _) _
  have bF : V.heap[gf]? = some (.cells #[.int .i64 4, .int .i64 0, .string ⟨#[]⟩, .bool false] 29 (0, 0)) := by
    have := blk_new (w.alloc (Obj.cells #[.int .i64 0, .int .i64 0, .string ⟨#[]⟩, .bool false] 29)) (Obj.cells #[.int .i64 4, .int .i64 0, .string ⟨#[]⟩, .bool false] 29)
    rw [World.size_alloc] at this
    rw [← hV, ← hgf]; exact this
  have HV : Aside0 (IsS60 w0 V g b at_) := ⟨HI.out.below VB⟩
  have HBV : Aside0 (Below w0.heap.size w0 V) := ⟨below_step HB.out VB⟩
  have hsz : w0.heap.size ≤ w.heap.size := HB.out.size
  have HKV : Aside0 (KeepBut w V g none) := ⟨⟨VB.size, fun i hi hne _ => VB.block i hi⟩⟩
  have hgs : gr + 2 = V.heap.size := by rw [← hV, ← hgr]; simp
  rw [hV, hgf, hgr]
  have ng1 : gr ≠ g := by omega
  have ng2 : gf ≠ g := by omega
  have ng3 : gr ≠ gf := by omega
  have ng4 : gf ≠ gr := fun e => ng3 e.symm
  have ng5 : g ≠ gr := fun e => ng1 e.symm
  have ng6 : g ≠ gf := fun e => ng2 e.symm
  have BR := Aside0.mk bR
  have BF := Aside0.mk bF
  clear hV bR bF VB HI HB
  go_upto_region 17 with (go_at_call 50; refine (code_cursor_keyText.calls k g b at_ s e1 a1 w0 V HV.out HBV.out HN.out).mono ?_; rintro e w1 ⟨rfl, hi, hb, hk⟩; have HI1 := Aside0.mk hi; have HB1 := Aside0.mk hb; have HK1 : Aside0 (KeepBut w w1 g none) := ⟨KeepBut.trans HKV.out hk (.inl rfl)⟩; have BR1 := Aside0.mk ((hk.2 gr (blk_lt BR.out) ng1 (by simp)).trans BR.out); have BF1 := Aside0.mk ((hk.2 gf (blk_lt BF.out) ng2 (by simp)).trans BF.out); clear hi hb hk HV HBV HKV BR BF)
  obtain ⟨c0, c1, c2, c3⟩ := cell29 BF1.out
  obtain ⟨d0, d1, d2, d3⟩ := blkF4 BF1.out
  obtain ⟨p0, p1, p2, p3⟩ := cell29 BR1.out
  obtain ⟨q0, q1, q2, q3⟩ := blkF4 BR1.out
  go_wp2
  refine bodyPost_ret (results_ct rfl _ _ gr 29 #[.int .i64 4, .int .i64 0, .string s, .bool false] (0, 0) _ rfl (by
    refine blk_put (cs := #[.int .i64 4, .int .i64 0, .string s, .bool false]) ?_ 3 _ rfl
    refine blk_put (cs := #[.int .i64 4, .int .i64 0, .string ⟨#[]⟩, .bool false]) ?_ 2 _ rfl
    refine blk_put (cs := #[.int .i64 4, .int .i64 0, .string ⟨#[]⟩, .bool false]) ?_ 1 _ rfl
    refine blk_put (cs := #[.int .i64 0, .int .i64 0, .string ⟨#[]⟩, .bool false]) ?_ 0 _ rfl
    repeat (first | (with_reducible refine blk_far ?_ ng3 _) | (with_reducible refine blk_far ?_ ng1 _) | exact BR1.out)) Tryd.underlying29 rfl (by kernel_rfl)) rfl ?_
  refine ⟨rfl, ?_, ?_, ?_⟩
  · repeat (first | (with_reducible refine IsS60.far ?_ ng6 _) | (with_reducible refine IsS60.far ?_ ng5 _) | (with_reducible refine IsS60.set_1 (f1 := at_) ?_ _) | (with_reducible apply IsS60.drewN) | (with_reducible apply IsS60.drew) | (with_reducible exact HI1.out))
  · repeat (first | (with_reducible refine below_set ?_ (by omega)) | (with_reducible apply pw_below_drewN) | (with_reducible apply below_drew1) | (with_reducible exact HB1.out))
  · repeat (first | (with_reducible refine keep_far ?_ (show w.heap.size ≤ gr by omega) _) | (with_reducible refine keep_far ?_ (show w.heap.size ≤ gf by omega) _) | (with_reducible apply KeepBut.set_) | (with_reducible apply keep_drewN) | (with_reducible apply keep_drew) | (with_reducible exact HK1.out))
set_option maxHeartbeats 4000000 in
set_option maxRecDepth 100000 in
theorem kf_rest (k g : Nat) (b : List Int) (at_ : Int) (kd : Int) (f : S29) (e1 a1 : Int) (w0 w : World) (hI : IsS60 w0 w g b at_) (hB : Below w0.heap.size w0 w) (hn : code_cursor_field.f k b at_ kd = some (f, e1, a1)) (b1 : (kd == 1) = false) (b2 : (kd == 2) = false) (b3 : (kd == 3) = false) (b4 : (kd == 4) = false) :
    Calls Tryd.prog 39 #[.pointer (some ⟨g, 0, none⟩), .int .i64 kd] w (FieldPost w0 w g b f e1 a1) := by
  have HN := Aside0.mk hn
  clear hn
  have HI := Aside0.mk hI
  have HB := Aside0.mk hB
  clear hI hB
  have hu29 := Tryd.underlying29
  go_enter Tryd.func39, Tryd.ntmps39
  go_upto_region 2 with (fail)
  have hgl : g < w.heap.size := HI.out.lt
  obtain ⟨gr, hgr⟩ : ∃ gr, w.heap.size = gr := ⟨_, rfl⟩
  obtain ⟨gf, hgf⟩ : ∃ gf, w.heap.size + 1 = gf := ⟨_, rfl⟩
  obtain ⟨V, hV⟩ : ∃ V, ((w.alloc (Obj.cells #[.int .i64 0, .int .i64 0, .string ⟨#[]⟩, .bool false] 29)).alloc (Obj.cells #[.int .i64 kd, .int .i64 0, .string ⟨#[]⟩, .bool false] 29)) = V := ⟨_, rfl⟩
  have VB : Below w.heap.size w V := by rw [← hV]; repeat (first | exact Below.refl _ _ | apply below_alloc)
  have bR : V.heap[gr]? = some (.cells #[.int .i64 0, .int .i64 0, .string ⟨#[]⟩, .bool false] 29 (0, 0)) := by rw [← hV, ← hgr]; exact blk_alloc (blk_new w _) _
  have bF : V.heap[gf]? = some (.cells #[.int .i64 kd, .int .i64 0, .string ⟨#[]⟩, .bool false] 29 (0, 0)) := by
    have := blk_new (w.alloc (Obj.cells #[.int .i64 0, .int .i64 0, .string ⟨#[]⟩, .bool false] 29)) (Obj.cells #[.int .i64 kd, .int .i64 0, .string ⟨#[]⟩, .bool false] 29)
    rw [World.size_alloc] at this
    rw [← hV, ← hgf]; exact this
  have HV : Aside0 (IsS60 w0 V g b at_) := ⟨HI.out.below VB⟩
  have HBV : Aside0 (Below w0.heap.size w0 V) := ⟨below_step HB.out VB⟩
  have hsz : w0.heap.size ≤ w.heap.size := HB.out.size
  have HKV : Aside0 (KeepBut w V g none) := ⟨⟨VB.size, fun i hi hne _ => VB.block i hi⟩⟩
  have hgs : gr + 2 = V.heap.size := by rw [← hV, ← hgr]; simp
  rw [hV, hgf, hgr]
  have ng1 : gr ≠ g := by omega
  have ng2 : gf ≠ g := by omega
  have ng3 : gr ≠ gf := by omega
  have ng4 : gf ≠ gr := fun e => ng3 e.symm
  have ng5 : g ≠ gr := fun e => ng1 e.symm
  have ng6 : g ≠ gf := fun e => ng2 e.symm
  have BR := Aside0.mk bR
  have BF := Aside0.mk bF
  clear hV bR bF VB HI HB
  go_wp2_with (go_at_call 48; refine (code_cursor_field.calls k g b at_ kd f e1 a1 w0 V HV.out HBV.out HN.out).mono ?_; rintro e w1 ⟨rfl, hi, hb, hk⟩; have HI1 := Aside0.mk hi; have HB1 := Aside0.mk hb; have HK1 : Aside0 (KeepBut w w1 g none) := ⟨KeepBut.trans HKV.out hk (.inl rfl)⟩; have BR1 := Aside0.mk ((hk.2 gr (blk_lt BR.out) ng1 (by simp)).trans BR.out); have BF1 := Aside0.mk ((hk.2 gf (blk_lt BF.out) ng2 (by simp)).trans BF.out); clear hi hb hk HV HBV HKV BR BF; obtain ⟨p0, p1, p2, p3⟩ := cell29 BR1.out; obtain ⟨q0, q1, q2, q3⟩ := blkF4 BR1.out)
  refine bodyPost_ret (results_ct rfl _ _ gr 29 #[.int .i64 f.f0, .int .i64 f.f1, .string f.f2, .bool f.f3] (0, 0) _ rfl (by
    refine blk_put (cs := #[.int .i64 f.f0, .int .i64 f.f1, .string f.f2, .bool false]) ?_ 3 _ rfl
    refine blk_put (cs := #[.int .i64 f.f0, .int .i64 f.f1, .string ⟨#[]⟩, .bool false]) ?_ 2 _ rfl
    refine blk_put (cs := #[.int .i64 f.f0, .int .i64 0, .string ⟨#[]⟩, .bool false]) ?_ 1 _ rfl
    refine blk_put (cs := #[.int .i64 0, .int .i64 0, .string ⟨#[]⟩, .bool false]) ?_ 0 _ rfl
    repeat (first | (with_reducible refine blk_far ?_ ng3 _) | (with_reducible refine blk_far ?_ ng1 _) | exact BR1.out)) Tryd.underlying29 rfl (by kernel_rfl)) rfl ?_
  refine ⟨rfl, ?_, ?_, ?_⟩
  · repeat (first | (with_reducible refine IsS60.far ?_ ng6 _) | (with_reducible refine IsS60.far ?_ ng5 _) | (with_reducible refine IsS60.set_1 (f1 := at_) ?_ _) | (with_reducible apply IsS60.drewN) | (with_reducible apply IsS60.drew) | (with_reducible exact HI1.out))
  · repeat (first | (with_reducible refine below_set ?_ (by omega)) | (with_reducible apply pw_below_drewN) | (with_reducible apply below_drew1) | (with_reducible exact HB1.out))
  · repeat (first | (with_reducible refine keep_far ?_ (show w.heap.size ≤ gr by omega) _) | (with_reducible refine keep_far ?_ (show w.heap.size ≤ gf by omega) _) | (with_reducible apply KeepBut.set_) | (with_reducible apply keep_drewN) | (with_reducible apply keep_drew) | (with_reducible exact HK1.out))
theorem code_cursor_keyField.calls (k g : Nat) (b : List Int) (at_ kind : Int) (f : S29) (e0 at1 : Int) (w0 w : World) (hI : IsS60 w0 w g b at_) (hB : Below w0.heap.size w0 w) (h : code_cursor_keyField.f k b at_ kind = some (f, e0, at1)) :
    Calls Tryd.prog 39 #[.pointer (some ⟨g, 0, none⟩), .int .i64 kind] w (FieldPost w0 w g b f e0 at1) := by
  unfold code_cursor_keyField.f at h
  have fp : ∀ {f' : S29} {e0' at1' : Int}, some (f', e0', at1') = some (f, e0, at1) → Calls Tryd.prog 39 #[.pointer (some ⟨g, 0, none⟩), .int .i64 kind] w (FieldPost w0 w g b f' e0' at1') → Calls Tryd.prog 39 #[.pointer (some ⟨g, 0, none⟩), .int .i64 kind] w (FieldPost w0 w g b f e0 at1) := by
    intro f' e0' at1' h c
    simp only [Option.some.injEq, Prod.mk.injEq] at h
    obtain ⟨rfl, rfl, rfl⟩ := h
    exact c
  by_cases hn : kind = 1 ∨ kind = 2 ∨ kind = 3
  · rw [if_pos hn] at h
    obtain ⟨⟨x, ok, a1⟩, hk, h⟩ := Option.bind_eq_some_iff.mp h
    simp only at h
    cases ok with
    | false =>
      rw [if_neg (by decide)] at h
      rcases hn with rfl | rfl | rfl
      · exact fp h (kf_short1 k g b at_ x a1 w0 w hI hB hk)
      · exact fp h (kf_short2 k g b at_ x a1 w0 w hI hB hk)
      · exact fp h (kf_short3 k g b at_ x a1 w0 w hI hB hk)
    | true =>
      rw [if_pos rfl] at h
      by_cases h2 : kind = 2
      · subst h2
        rw [if_pos rfl] at h
        exact fp h (kf_int k g b at_ x a1 w0 w hI hB hk)
      rw [if_neg h2] at h
      by_cases hx : 9223372036854775807 < x
      · rw [if_pos hx] at h
        rcases hn with rfl | rfl | rfl
        · exact fp h (kf_big1 k g b at_ x a1 w0 w hI hB hk (decide_eq_true hx))
        · exact absurd rfl h2
        · exact fp h (kf_big3 k g b at_ x a1 w0 w hI hB hk (decide_eq_true hx))
      rw [if_neg hx] at h
      rcases hn with rfl | rfl | rfl
      · rw [if_neg (fun q => absurd q.1 (by decide))] at h
        exact fp h (kf_num k g b at_ x a1 w0 w hI hB hk (decide_eq_false hx))
      · exact absurd rfl h2
      · by_cases hy : 4294967295 < x
        · rw [if_pos ⟨rfl, hy⟩] at h
          exact fp h (kf_wordbig k g b at_ x a1 w0 w hI hB hk (decide_eq_false hx) (decide_eq_true hy))
        · rw [if_neg (fun q => hy q.2)] at h
          exact fp h (kf_word k g b at_ x a1 w0 w hI hB hk (decide_eq_false hx) (decide_eq_false hy))
  rw [if_neg hn] at h
  have n1 : (kind == 1) = false := beq_eq_false_iff_ne.mpr (fun q => hn (.inl q))
  have n2 : (kind == 2) = false := beq_eq_false_iff_ne.mpr (fun q => hn (.inr (.inl q)))
  have n3 : (kind == 3) = false := beq_eq_false_iff_ne.mpr (fun q => hn (.inr (.inr q)))
  by_cases h4 : kind = 4
  · rw [if_pos h4] at h
    subst h4
    obtain ⟨⟨s, e1, a1⟩, hk, h⟩ := Option.bind_eq_some_iff.mp h
    exact fp h (kf_text k g b at_ s e1 a1 w0 w hI hB hk)
  rw [if_neg h4] at h
  exact kf_rest k g b at_ kind f e0 at1 w0 w hI hB h n1 n2 n3 (beq_eq_false_iff_ne.mpr h4)
theorem code_cursor_keyField.mono (b : List Int) (at_ kind : Int) (k : Nat) : LeO (code_cursor_keyField.f k b at_ kind) (code_cursor_keyField.f (k + 1) b at_ kind) := by
  unfold code_cursor_keyField.f
  refine LeO.ite (LeO.bind (code_cursor_keyNumber.mono _ _ _) (fun _ => LeO.refl _)) ?_
  exact LeO.ite (LeO.bind (code_cursor_keyText.mono _ _ _) (fun _ => LeO.refl _)) (code_cursor_field.mono _ _ _ _)
end Go.Proofs.YtcheinjlgojepaaDoor.P
namespace Go.Proofs.YtcheinjlgojepaaDoor.P
open Go.RowKit Go.Proofs.YtcheinjlgojepaaDoorW.PrintWords Go.Proofs.YtcheinjlgojepaaDoorW.PrintLast Go.Proofs.YtcheinjlgojepaaDoorW.PrintMore
attribute [local go_sem] max2_int min2_int max_two min_two max_three min_three max_four min_four   -- for this text's walks alone
set_option linter.unusedVariables false
set_option linter.unusedSimpArgs false
def code_cursor_keyField6.f (k : Nat) (b : List Int) (at_ : Int) (kind : Int) : Option (Int × Int × ByteArray × Bool × Int × Int) := (code_cursor_keyField.f k b at_ kind).bind fun t => some (t.1.f0, t.1.f1, t.1.f2, t.1.f3, t.2.1, t.2.2)
theorem code_cursor_keyField6.calls (k : Nat) (g : Nat) (s0_0 : List Int) (s0_1 : Int) (a1 : Int) (r1 : Int) (r2 : Int) (r3 : ByteArray) (r4 : Bool) (r5 : Int) (r6 : Int) (w0 w : World) (hI : IsS60 w0 w g s0_0 s0_1) (hB : Below w0.heap.size w0 w) (h : code_cursor_keyField6.f k s0_0 s0_1 a1 = some (r1, r2, r3, r4, r5, r6)) :
  Calls Tryd.prog 39 #[.pointer (some ⟨g, 0, none⟩), .int .i64 a1] w fun e w' => e = .returned (.tuple #[.agg #[.int .i64 r1, .int .i64 r2, .string r3, .bool r4], .int .i64 r5]) ∧ IsS60 w0 w' g s0_0 r6 ∧ Below w0.heap.size w0 w' ∧ KeepBut w w' g none := by
  obtain ⟨⟨⟨b0, b1, b2, b3⟩, b4, b5⟩, hk, h⟩ := Option.bind_eq_some_iff.mp h
  simp only [Option.some.injEq, Prod.mk.injEq] at h
  obtain ⟨rfl, rfl, rfl, rfl, rfl, rfl⟩ := h
  exact code_cursor_keyField.calls k g s0_0 s0_1 a1 ⟨b0, b1, b2, b3⟩ b4 b5 w0 w hI hB hk
theorem code_cursor_keyField6.mono (b : List Int) (at_ kind : Int) (k : Nat) : LeO (code_cursor_keyField6.f k b at_ kind) (code_cursor_keyField6.f (k + 1) b at_ kind) := LeO.bind (code_cursor_keyField.mono _ _ _ _) (fun _ => LeO.refl _)
def code_ReadKey.l0 : Nat → ByteArray → List (S29) → List Int → Int → Int → List Int → Int → Option ((List (S29)) × Int × Int)
 | 0, _, _, _, _, _, _, _ => none
 | k + 1, x0, x7, x16, x17, x18, x3000, x3001 => if x18 < x17 then (if 0 ≤ x18 then (if x18 < (x16.length : Int) then ((code_cursor_keyField6.f k x3000 x3001 (rd x16 x18)).bind fun bt377 => (if bt377.2.2.2.2.1 = 0 then (if x7.length < 3518437208883 then (code_ReadKey.l0 k x0 (x7 ++ [(⟨bt377.1, bt377.2.1, bt377.2.2.1, bt377.2.2.2.1⟩ : S29)]) x16 x17 (wrap64 (x18 + 1)) x3000 bt377.2.2.2.2.2) else (none)) else (some (([] : List (S29)), bt377.2.2.2.2.1, bt377.2.2.2.2.2)))) else (none)) else (none)) else (if x3001 = (x0.size : Int) then (some (x7, 0, x3001)) else (some (([] : List (S29)), 10, x3001)))
def code_ReadKey.f (k : Nat) (a0 : ByteArray) (l1 : List Int) : Option ((List (S29)) × Int) := if a0.size ≤ 9223372036854775807 then (code_ReadKey.l0 k a0 ([] : List (S29)) l1 (l1.length : Int) 0 (bytesOf a0) 0).bind fun t => some (t.1, t.2.1) else none
theorem code_ReadKey.mono_l : ∀ k, (∀ y0 y1 y2 y3 y4 y5 y6, LeO (code_ReadKey.l0 k y0 y1 y2 y3 y4 y5 y6) (code_ReadKey.l0 (k + 1) y0 y1 y2 y3 y4 y5 y6))
 | 0 => fun _ _ _ _ _ _ _ r h => by simp [code_ReadKey.l0] at h
 | k + 1 => by
  have ih0 := code_ReadKey.mono_l k
  ·intro y0 y1 y2 y3 y4 y5 y6
   unfold code_ReadKey.l0
   repeat' first
   | (with_reducible exact ih0 _ _ _ _ _ _ _)
   | (with_reducible exact code_cursor_keyField6.mono _ _ _ _)
   | (with_reducible exact LeO.refl _)
   | (with_reducible exact LeO.none _)
   | (with_reducible refine LeO.ite ?_ ?_)
   | (with_reducible refine LeO.bind ?_ (fun _ => ?_))
   | exact ih0 _ _ _ _ _ _ _
   | exact code_cursor_keyField6.mono _ _ _ _
   | exact LeO.none _
   | refine LeO.ite ?_ ?_
   | refine LeO.bind ?_ (fun _ => ?_)
theorem code_ReadKey.mono : ∀ a0 a1 k, LeO (code_ReadKey.f k a0 a1) (code_ReadKey.f (k + 1) a0 a1) := by
 intro a0 a1 k
 have ih0 := code_ReadKey.mono_l k
 unfold code_ReadKey.f
 repeat' first
   | (with_reducible exact ih0 _ _ _ _ _ _ _)
   | (with_reducible exact code_cursor_keyField6.mono _ _ _ _)
   | (with_reducible exact LeO.refl _)
   | (with_reducible exact LeO.none _)
   | (with_reducible refine LeO.ite ?_ ?_)
   | (with_reducible refine LeO.bind ?_ (fun _ => ?_))
   | exact ih0 _ _ _ _ _ _ _
   | exact code_cursor_keyField6.mono _ _ _ _
   | exact LeO.none _
   | refine LeO.ite ?_ ?_
   | refine LeO.bind ?_ (fun _ => ?_)
set_option maxHeartbeats 8000000 in
set_option maxRecDepth 100000 in
theorem code_ReadKey.calls (k : Nat) (a0 : ByteArray) (A1 : Option Addr) (c1 : Nat) (l1 : List Int) (r1 : List (S29)) (r2 : Int) (w_ : World) (hr1 : Kd.C (Kd.int .i64) w_ A1 l1.length l1) (hc1 : l1.length ≤ c1) (h : code_ReadKey.f k a0 l1 = some (r1, r2)) :
  Calls Tryd.prog 22 #[.string a0, .slice A1 l1.length c1] w_ fun e w' => ∃ v0_ : Value, e = .returned (.tuple #[v0_, .int .i64 r2]) ∧ Kd.R k29 29 w' w_.heap.size (fun _ => True) v0_ r1 ∧ Below w_.heap.size w_ w' := by
 have hu29 := Tryd.underlying29
 unfold code_ReadKey.f at h
 by_cases hsz : a0.size ≤ 9223372036854775807
 case neg => rw [if_neg hsz] at h; cases h
 rw [if_pos hsz] at h
 replace h := Option.bind_eq_some_iff.mp h
 obtain ⟨⟨q1, q2, r3⟩, hh, hq⟩ := h
 simp only [Option.some.injEq, Prod.mk.injEq] at hq
 obtain ⟨rfl, rfl⟩ := hq
 obtain ⟨w0, hw0⟩ : ∃ w0, w0 = Lib.bytesWorld w_ 5 a0 := ⟨_, rfl⟩
 obtain ⟨g, hg⟩ : ∃ g, g = w0.heap.size := ⟨_, rfl⟩
 obtain ⟨cc, hcc⟩ : ∃ cc, cc = grownCap w_ a0.size 0 5 := ⟨_, rfl⟩
 have hwb : Below w_.heap.size w_ w0 := by rw [hw0]; exact bytes_below (Below.refl _ _) (Nat.le_refl _) 5 a0
 have hrd : Kd.C (Kd.int .u8) w0 (some ⟨w_.heap.size, 0, none⟩) (bytesOf a0).length (bytesOf a0) := by
  rw [hw0, bytesOf_length]
  exact Kd.C_of_reads (d := (0 : Int)) (h1 := fun _ => rfl) (bytes_reads w_ 5 a0 hsz)
 obtain ⟨w, hw⟩ : ∃ w, w = w0.alloc (.cells #[.slice (some ⟨w_.heap.size, 0, none⟩) a0.size cc, .int .i64 0] 60) := ⟨_, rfl⟩
 have hI : IsS60 w0 w g (bytesOf a0) 0 := by
  have := IsS60.new w0 w0 (some ⟨w_.heap.size, 0, none⟩) cc (bytesOf a0) 0 (Below.refl _ _) hrd (by rw [bytesOf_length, hcc]; exact grownCap_ge _ _ _ _)
  rw [bytesOf_length] at this
  rw [hw, hg]; exact this
 have hB : Below w0.heap.size w0 w := by rw [hw]; exact below_alloc (Below.refl _ _) _
 have hwl : w_.heap.size ≤ w.heap.size := by rw [hw, World.size_alloc]; exact Nat.le_succ_of_le hwb.size
 have HWL := Aside0.mk hwl
 have HFIN : Aside0 (∀ (e : Ending) (w' : World), (∃ v0_ : Value, e = .returned (.tuple #[v0_, .int .i64 q2]) ∧ Kd.R k29 29 w' w.heap.size (fun _ => True) v0_ q1 ∧ IsS60 w0 w' g (bytesOf a0) r3 ∧ Below w0.heap.size w0 w' ∧ KeepBut w w' g none) → ∃ v0_ : Value, e = .returned (.tuple #[v0_, .int .i64 q2]) ∧ Kd.R k29 29 w' w_.heap.size (fun _ => True) v0_ q1 ∧ Below w_.heap.size w_ w') := by
  refine ⟨?_⟩
  rintro e w' ⟨v, h1, h2, _, h4, _⟩
  exact ⟨v, h1, Kd.R_lower h2 hwl, below_step hwb h4⟩
 have hf1 : ∀ ad, A1 = some ad → 0 < l1.length → ad.block ≠ g := by
  intro ad e hp
  obtain ⟨ad', e', hc'⟩ := hr1.2.2 hp
  obtain rfl : ad' = ad := Option.some.inj (e'.symm.trans e)
  obtain ⟨cs, h1, h2, h3⟩ := hc' 0 (l1[0]'hp) (List.getElem?_eq_getElem hp)
  have hcl := World.block_lt_of_cell? w_ _ (h3 0 (cs[0]'(by rw [h1]; decide)) (List.getElem?_eq_getElem (by rw [h1]; decide)))
  have hbl : ∀ n : Nat, (ad'.add n).block = ad'.block := fun n => by unfold Addr.add; split <;> rfl
  rw [hbl] at hcl
  have := hwb.size
  omega
 have hr1' : Kd.C (Kd.int .i64) w A1 l1.length l1 := by rw [hw]; exact Kd.C_alloc (Kd.C_below hr1 hwb) _
 have kb := print_bytes (P := Tryd.prog) 9 31 5 Tryd.underlying9 Tryd.underlying31 Tryd.underlying5 a0 w_
 rw [← hcc, ← hw0] at kb
 have HW := Aside0.mk hw
 have HG := Aside0.mk hg
 clear hw hg hw0 hcc hsz hrd hwb hwl
 go_enter Tryd.func22, Tryd.ntmps22
 go_upto_region 2 with (fail)
 rw [← HG.out, ← HW.out]
 have HR1 := Aside0.mk hr1'
 have HC1 := Aside0.mk hc1
 clear hr1' hc1 hr1 kb HG HW
 have HI2 := Aside0.mk hI
 have HK := Aside0.mk (KeepBut.refl w g none)
 have HL := Aside0.mk hB.size
 clear hI
 have HW0 := Aside0.mk hB.size
 have HB := Aside0.mk hB
 clear hB
 have H : (code_ReadKey.l0 k a0 ([] : List (S29)) l1 (l1.length : Int) 0 (bytesOf a0) 0) = some (q1, q2, r3) := hh
 clear hh
 have H' := Aside0.mk H
 clear H
 go_wp2
 go_loopg [7, 18] k (fun kq v7 v18 w' => ∃ (x7_1 : List (S29)) (x18_1 : Int) (x3001_1 : Int), v18 = .int .i64 x18_1 ∧ Aside0 (code_ReadKey.l0 kq a0 x7_1 l1 (l1.length : Int) x18_1 (bytesOf a0) x3001_1 = some (q1, q2, r3)) ∧ Aside0 (kq ≤ k) ∧ Aside0 (Kd.R k29 29 w' w.heap.size (fun _ => True) v7 x7_1) ∧ Aside0 (IsS60 w0 w' g (bytesOf a0) x3001_1) ∧ Aside0 (KeepBut w w' g none) ∧ Aside0 (Below w0.heap.size w0 w'))
 case atStart => exact ⟨(([] : List (S29))), (0), (0), (by first | rfl | (simp; done) | (simp [*]; done)), H', ⟨Nat.le_refl _⟩, ⟨by first | exact Kd.R_nil _ _ _ _ _ | exact Kd.N_nil _ _ _ _ _ | exact Kd.V_nil _ _ _ _ _ | exact Kd.Q_nil _ _ _ _ _ | exact Kd.S_nil _ _ _ _ _⟩, ⟨by repeat (first | (with_reducible first | exact HI2.out | apply IsS60.alloc | apply IsS60.drewN | apply IsS60.drew | apply IsS60.set_1) | exact HI2.out)⟩, ⟨by repeat (first | (with_reducible first | exact HK.out | apply KeepBut.set_ | apply keep_drewN | apply keep_drew | apply keep_alloc) | exact HK.out)⟩, ⟨by repeat (first | (with_reducible first | exact HB.out | apply below_alloc | apply pw_below_drewN | apply below_drew1 | refine below_set ?_ (IsS60.ge HI2.out)) | exact HB.out)⟩⟩
 case round =>
  clear H'
  try clear c1
  try clear c2
  try clear p2
  obtain ⟨x7_1, x18_1, x3001_1, rfl, HA, HK1, HO_7, HI2, HK, HB⟩ := hrel
  cases gk with
  | zero => exact absurd HA.out (by simp [code_ReadKey.l0])
  | succ k1 =>
   have H := HA.out
   clear HA
   simp only [code_ReadKey.l0] at H
   by_cases c4 : x18_1 < (l1.length : Int)
   ·rw [if_pos c4] at H
    have c4b0 : decide (x18_1 < (l1.length : Int)) = true := decide_eq_true c4
    clear c4
    by_cases c5 : 0 ≤ x18_1
    ·rw [if_pos c5] at H
     have c5b0 : decide (0 ≤ x18_1) = true := decide_eq_true c5
     clear c5
     by_cases c6 : x18_1 < (l1.length : Int)
     ·rw [if_pos c6] at H
      have c6b0 : decide (x18_1 < (l1.length : Int)) = true := decide_eq_true c6
      clear c6
      replace H := Option.bind_eq_some_iff.mp H
      obtain ⟨⟨t377, t378, t379, t380, t381, t382⟩, A70, H⟩ := H
      replace H : (if t381 = 0 then (if x7_1.length < 3518437208883 then (code_ReadKey.l0 k1 a0 (x7_1 ++ [(⟨t377, t378, t379, t380⟩ : S29)]) l1 (l1.length : Int) (wrap64 (x18_1 + 1)) (bytesOf a0) t382) else (none)) else (some (([] : List (S29)), t381, t382))) = some (q1, q2, r3) := H
      have A7 := Aside0.mk A70
      clear A70
      by_cases c8 : t381 = 0
      ·rw [if_pos c8] at H
       have c8b0 : (t381 == 0) = true := beq_iff_eq.mpr c8
       have c8b1 : (t381 != 0) = false := bne_eq_false_iff_eq.mpr c8
       clear c8
       by_cases c9 : x7_1.length < 3518437208883
       ·rw [if_pos c9] at H
        have LMc9 := Aside0.mk c9
        clear c9
        obtain ⟨y384, hy384⟩ : ∃ y_ : List (S29), y_ = (x7_1 ++ [(⟨t377, t378, t379, t380⟩ : S29)]) := ⟨_, rfl⟩
        replace H : (code_ReadKey.l0 k1 a0 y384 l1 (l1.length : Int) (wrap64 (x18_1 + 1)) (bytesOf a0) t382) = some (q1, q2, r3) := by first | (rw [hy384]; with_reducible exact H) | (have H2_ := (Option.bind_some _ _).symm.trans H; rw [hy384]; with_reducible exact H2_) | (have H2_ := (Option.bind_some _ _).symm.trans H; with_reducible exact H2_) | with_reducible exact H | (rw [hy384]; exact H) | exact H
        have Ny384 := Aside0.mk hy384
        clear hy384
        have H' := Aside0.mk H
        clear H
        have p376 : 0 ≤ (x18_1 : Int) := of_decide_eq_true (by first | (with_reducible assumption) | assumption)
        have q376 : x18_1 < (l1.length : Int) := of_decide_eq_true (by first | (with_reducible assumption) | assumption)
        obtain ⟨ad376, e376, hx376_0⟩ := Kd.at_int HR1.out x18_1 p376 q376
        cases e376
        replace hx376_0 := keep_cell HK.out hx376_0 (by first | (rw [add_block]; exact hf1 _ rfl (by omega)) | exact hf1 _ rfl (by omega) | exact hf1 ad376 rfl (by omega))
        replace p376 := eq_true p376
        replace q376 := eq_true q376
        go_wp2_with (first | ((with_reducible refine gate_callee (f := 39) rfl ?_); refine goesL_ (some 25) rfl rfl Tryd.func39 (by kernel_rfl) rfl #[.pointer (some ⟨g, 0, none⟩), .int .i64 (rd l1 x18_1)] rfl (by (try simp only [List.map_toArray, List.map_cons, List.map_nil]); first | done | rfl | (simp only [List.length_drop, List.length_take]; rfl)) ?_; (with_reducible refine (code_cursor_keyField6.calls k1 g (bytesOf a0) x3001_1 (rd l1 x18_1) t377 t378 t379 t380 t381 t382 w0 _ ?side1 ?side2 A7.out).mono ?_); (case side1 => repeat (first | (with_reducible first | exact HI2.out | apply IsS60.alloc | apply IsS60.drewN | apply IsS60.drew | apply IsS60.set_1) | exact HI2.out)); (case side2 => repeat (first | (with_reducible first | exact HB.out | apply below_alloc | apply pw_below_drewN | apply below_drew1 | refine below_set ?_ (IsS60.ge HI2.out)) | exact HB.out)); rintro e w10 ⟨rfl, hi, hb, hk⟩; refine ⟨_, rfl, ?_⟩; have n0_ := Aside0.mk (Kd.R_mono (Kd.R_keep (IsS60.apart (show IsS60 w0 _ g (bytesOf a0) x3001_1 from by repeat (first | (with_reducible first | exact HI2.out | apply IsS60.alloc | apply IsS60.drewN | apply IsS60.drew | apply IsS60.set_1) | exact HI2.out)) (by (with_reducible repeat (first | apply Kd.R_alloc | apply Kd.R_drewN | apply Kd.R_drew)); exact HO_7.out) (by decide)) hk (fun _ h => h.2)) (fun _ h => h.1)); have n1_ := Aside0.mk (KeepBut.trans (by repeat (first | (with_reducible first | exact HK.out | apply KeepBut.set_ | apply keep_drewN | apply keep_drew | apply keep_alloc) | exact HK.out)) hk (.inl rfl)); have n2_ := Aside0.mk (hb); have n3_ := Aside0.mk (hi); clear HO_7; clear HK; clear HB; clear HI2; have HO_7 := n0_; have HK := n1_; have HB := n2_; have HI2 := n3_; clear n0_ n1_ n2_ n3_; (try clear hb); (try clear hb2); (try clear hk); (try clear hi)) | ((with_reducible refine gate_dst (N := 10) rfl ?_); refine box_event ?hg (N := 10) ?hd (cs := #[.int .i64 0, .int .i64 0, .string (⟨#[]⟩ : ByteArray), .bool false]) (t := 29) ?hr ?_; (case hd => rfl); (case hg => rfl); (case hr => first | (go_simp; done) | (go_simp; rfl)); intro gb383 hg w11 hbox hb; have n0_ := Aside0.mk (Kd.R_below (Kd.R_elderB (by (with_reducible repeat (first | apply Kd.R_alloc | apply Kd.R_drewN | apply Kd.R_drew)); exact HO_7.out) gb383 (Nat.le_of_eq hg.symm)) hb); have n1_ := Aside0.mk (IsS60.below (by repeat (first | (with_reducible first | exact HI2.out | apply IsS60.alloc | apply IsS60.drewN | apply IsS60.drew | apply IsS60.set_1) | exact HI2.out)) hb); have n2_ := Aside0.mk (KeepBut.trans (by repeat (first | (with_reducible first | exact HK.out | apply KeepBut.set_ | apply keep_drewN | apply keep_drew | apply keep_alloc) | exact HK.out)) (KeepBut.of_below hb g none) (.inl rfl)); have n3_ := Aside0.mk (below_step (by repeat (first | (with_reducible first | exact HB.out | apply below_alloc | apply pw_below_drewN | apply below_drew1 | refine below_set ?_ (IsS60.ge HI2.out)) | exact HB.out)) hb); have n4_ := Aside0.mk (hbox); have n5_ := Aside0.mk ((by rw [hg]; exact (keep_size (w := w) (g := g) (row := none) (by repeat (first | (with_reducible first | exact HK.out | apply KeepBut.set_ | apply keep_drewN | apply keep_drew | apply keep_alloc) | exact HK.out))) : w.heap.size ≤ gb383)); have n6_ := Aside0.mk ((Nat.le_trans HW0.out (by rw [hg]; exact (keep_size (w := w) (g := g) (row := none) (by repeat (first | (with_reducible first | exact HK.out | apply KeepBut.set_ | apply keep_drewN | apply keep_drew | apply keep_alloc) | exact HK.out))) : w.heap.size ≤ gb383) : w0.heap.size ≤ gb383)); have n7_ := Aside0.mk ((by rw [hg]; exact Nat.ne_of_lt (IsS60.lt (show IsS60 w0 _ g (bytesOf a0) t382 from by repeat (first | (with_reducible first | exact HI2.out | apply IsS60.alloc | apply IsS60.drewN | apply IsS60.drew | apply IsS60.set_1) | exact HI2.out))) : g ≠ gb383)); have n8_ := Aside0.mk ((by rw [hg]; exact Nat.ne_of_gt (IsS60.lt (show IsS60 w0 _ g (bytesOf a0) t382 from by repeat (first | (with_reducible first | exact HI2.out | apply IsS60.alloc | apply IsS60.drewN | apply IsS60.drew | apply IsS60.set_1) | exact HI2.out))) : gb383 ≠ g)); clear HO_7; clear HI2; clear HK; clear HB; have HO_7 := n0_; have HI2 := n1_; have HK := n2_; have HB := n3_; have BK383 := n4_; have GW383 := n5_; have GE383 := n6_; have NB2_383 := n7_; have NB383_2 := n8_; clear n0_ n1_ n2_ n3_ n4_ n5_ n6_ n7_ n8_; clear hb hbox hg; have hnb12 := NB383_2.out; have hnc12 := NB2_383.out; obtain ⟨hcz13_0, hcz13_1, hcz13_2, hcz13_3⟩ := blkC4 w11 gb383 (.int .i64 0) (.int .i64 0) (.string (⟨#[]⟩ : ByteArray)) (.bool false) BK383.out; obtain ⟨hfz13_0, hfz13_1, hfz13_2, hfz13_3⟩ := blkF4 BK383.out) | ((with_reducible refine gate_builtin (b := .append) (xs := #[.tmp 31, .tmp 33]) rfl ?_); at_builtin; refine Kd.R_append k29 w.heap.size rfl (.tmp 31) (.tmp 33) 26 29 (.agg #[(.int .i64 0), (.int .i64 0), (.string ⟨#[]⟩), (.bool false)]) 40 rfl Tryd.underlying26 info29 rfl (by decide) (by omega) u7 x7_1 (⟨t377, t378, t379, t380⟩ : S29) [.int .i64 t377, .int .i64 t378, .string t379, .bool t380] (fun k_ => k_ ≠ gb383) (fun _ => False) rfl (by first | (go_simp; done) | (go_simp; rfl)) ?aP (fun _ hk => hk.elim) ?aF ?aO (Below.refl _ _) ?aS ?aL ?_; (case aP => exact k29_mkM _ _ _ (⟨t377, t378, t379, t380⟩ : S29)); (case aF => exact (fun k_ hk => Kd.freshB (g := gb383) (o := .cells #[.int .i64 t377, .int .i64 t378, .string t379, .bool t380] 29 (0, 0)) (by (with_reducible repeat (first | apply bN | apply bD | apply bA)); refine blk_put (cs := #[.int .i64 t377, .int .i64 t378, .string t379, .bool false]) ?_ 3 _ rfl; (with_reducible repeat (first | apply bN | apply bD | apply bA)); refine blk_put (cs := #[.int .i64 t377, .int .i64 t378, .string (⟨#[]⟩ : ByteArray), .bool false]) ?_ 2 _ rfl; (with_reducible repeat (first | apply bN | apply bD | apply bA)); refine blk_put (cs := #[.int .i64 t377, .int .i64 0, .string (⟨#[]⟩ : ByteArray), .bool false]) ?_ 1 _ rfl; (with_reducible repeat (first | apply bN | apply bD | apply bA)); refine blk_put (cs := #[.int .i64 0, .int .i64 0, .string (⟨#[]⟩ : ByteArray), .bool false]) ?_ 0 _ rfl; (with_reducible repeat (first | apply bN | apply bD | apply bA)); exact BK383.out) k_ hk)); (case aO => exact (by (with_reducible repeat (first | apply Kd.R_alloc | apply Kd.R_drewN | apply Kd.R_drew)); exact Kd.R_mono (Kd.R_far (p := ⟨gb383, 3, none⟩) (Kd.R_far (p := ⟨gb383, 2, none⟩) (Kd.R_far (p := ⟨gb383, 1, none⟩) (Kd.R_far (p := ⟨gb383, 0, none⟩) (Kd.R_mono HO_7.out (fun k_ hk => (⟨hk, hk.2⟩ : _ ∧ k_ ≠ gb383))) (fun _ hk => hk.2) (.int .i64 t377)) (fun _ hk => hk.2) (.int .i64 t378)) (fun _ hk => hk.2) (.string t379)) (fun _ hk => hk.2) (.bool t380)) (fun _ hk => hk.1.2))); (case aS => exact (keep_size (w := w) (g := g) (row := none) (by repeat (first | (with_reducible first | exact HK.out | apply KeepBut.set_ | apply keep_drewN | apply keep_drew | apply keep_alloc | refine keep_far ?_ GW383.out _) | exact HK.out)))); (case aL => have := LMc9.out; omega); intro v385 w14 ho hb hg hat; rw [← Ny384.out] at ho; have n0_ : Aside0 (IsS60 w0 w14 g (bytesOf a0) t382) := Aside0.mk (IsS60.grown (by repeat (first | (with_reducible first | exact HI2.out | apply IsS60.alloc | apply IsS60.drewN | apply IsS60.drew | apply IsS60.set_1 | refine IsS60.far ?_ NB2_383.out _) | exact HI2.out)) hg (IsS60.own_ne HI2.out HO_7.out (by decide))); have n1_ := Aside0.mk (blk_grown (g := gb383) (o := .cells #[.int .i64 t377, .int .i64 t378, .string t379, .bool t380] 29 (0, 0)) (by (with_reducible repeat (first | apply bN | apply bD | apply bA)); refine blk_put (cs := #[.int .i64 t377, .int .i64 t378, .string t379, .bool false]) ?_ 3 _ rfl; (with_reducible repeat (first | apply bN | apply bD | apply bA)); refine blk_put (cs := #[.int .i64 t377, .int .i64 t378, .string (⟨#[]⟩ : ByteArray), .bool false]) ?_ 2 _ rfl; (with_reducible repeat (first | apply bN | apply bD | apply bA)); refine blk_put (cs := #[.int .i64 t377, .int .i64 0, .string (⟨#[]⟩ : ByteArray), .bool false]) ?_ 1 _ rfl; (with_reducible repeat (first | apply bN | apply bD | apply bA)); refine blk_put (cs := #[.int .i64 0, .int .i64 0, .string (⟨#[]⟩ : ByteArray), .bool false]) ?_ 0 _ rfl; (with_reducible repeat (first | apply bN | apply bD | apply bA)); exact BK383.out) hg (Kd.R_away HO_7.out (fun _ hk => hk.2))); have n2_ := Aside0.mk (below_weaken (by repeat (first | (with_reducible first | exact HB.out | apply below_alloc | apply pw_below_drewN | apply below_drew1 | refine below_set ?_ (IsS60.ge HI2.out) | refine below_set ?_ GE383.out) | exact HB.out)) HL.out hb); have n3_ := Aside0.mk (KeepBut.trans (by repeat (first | (with_reducible first | exact HK.out | apply KeepBut.set_ | apply keep_drewN | apply keep_drew | apply keep_alloc | refine keep_far ?_ GW383.out _) | exact HK.out)) (KeepBut.of_grown hg g) (Kd.R_base2 HO_7.out)); have n4_ := Aside0.mk (ho); clear HI2; clear BK383; clear HB; clear HK; clear HO_7; have HI2 := n0_; have BK383 := n1_; have HB := n2_; have HK := n3_; have HO386 := n4_; clear n0_ n1_ n2_ n3_ n4_; clear ho hb hg hat))
        go_roundg k1
        case measure => have := HK1.out; omega
        case rel => exact ⟨(y384), (wrap64 (x18_1 + 1)), (t382), (by first | rfl | (simp; done) | (simp [*]; done)), H', ⟨by have := HK1.out; omega⟩, ⟨by (with_reducible repeat (first | apply Kd.R_alloc | apply Kd.R_drewN | apply Kd.R_drew)); exact Kd.R_mono HO386.out (fun _ hk => trivial)⟩, ⟨by repeat (first | (with_reducible first | exact HI2.out | apply IsS60.alloc | apply IsS60.drewN | apply IsS60.drew | apply IsS60.set_1 | refine IsS60.far ?_ NB2_383.out _) | exact HI2.out)⟩, ⟨by repeat (first | (with_reducible first | exact HK.out | apply KeepBut.set_ | apply keep_drewN | apply keep_drew | apply keep_alloc | refine keep_far ?_ GW383.out _) | exact HK.out)⟩, ⟨by repeat (first | (with_reducible first | exact HB.out | apply below_alloc | apply pw_below_drewN | apply below_drew1 | refine below_set ?_ (IsS60.ge HI2.out) | refine below_set ?_ GE383.out) | exact HB.out)⟩⟩
       ·rw [if_neg c9] at H
        exact absurd H (by simp)
      ·rw [if_neg c8] at H
       have c8b0 : (t381 == 0) = false := beq_eq_false_iff_ne.mpr c8
       have c8b1 : (t381 != 0) = true := bne_iff_ne.mpr c8
       simp only [Option.some.injEq, Prod.mk.injEq] at H
       obtain ⟨rfl, rfl, rfl⟩ := H
       have p376 : 0 ≤ (x18_1 : Int) := of_decide_eq_true (by first | (with_reducible assumption) | assumption)
       have q376 : x18_1 < (l1.length : Int) := of_decide_eq_true (by first | (with_reducible assumption) | assumption)
       obtain ⟨ad376, e376, hx376_0⟩ := Kd.at_int HR1.out x18_1 p376 q376
       cases e376
       replace hx376_0 := keep_cell HK.out hx376_0 (by first | (rw [add_block]; exact hf1 _ rfl (by omega)) | exact hf1 _ rfl (by omega) | exact hf1 ad376 rfl (by omega))
       replace p376 := eq_true p376
       replace q376 := eq_true q376
       go_wp2_with (first | ((with_reducible refine gate_callee (f := 39) rfl ?_); refine goesL_ (some 25) rfl rfl Tryd.func39 (by kernel_rfl) rfl #[.pointer (some ⟨g, 0, none⟩), .int .i64 (rd l1 x18_1)] rfl (by (try simp only [List.map_toArray, List.map_cons, List.map_nil]); first | done | rfl | (simp only [List.length_drop, List.length_take]; rfl)) ?_; (with_reducible refine (code_cursor_keyField6.calls k1 g (bytesOf a0) x3001_1 (rd l1 x18_1) t377 t378 t379 t380 t381 t382 w0 _ ?side1 ?side2 A7.out).mono ?_); (case side1 => repeat (first | (with_reducible first | exact HI2.out | apply IsS60.alloc | apply IsS60.drewN | apply IsS60.drew | apply IsS60.set_1) | exact HI2.out)); (case side2 => repeat (first | (with_reducible first | exact HB.out | apply below_alloc | apply pw_below_drewN | apply below_drew1 | refine below_set ?_ (IsS60.ge HI2.out)) | exact HB.out)); rintro e w15 ⟨rfl, hi, hb, hk⟩; refine ⟨_, rfl, ?_⟩; have n0_ := Aside0.mk (Kd.R_mono (Kd.R_keep (IsS60.apart (show IsS60 w0 _ g (bytesOf a0) x3001_1 from by repeat (first | (with_reducible first | exact HI2.out | apply IsS60.alloc | apply IsS60.drewN | apply IsS60.drew | apply IsS60.set_1) | exact HI2.out)) (by (with_reducible repeat (first | apply Kd.R_alloc | apply Kd.R_drewN | apply Kd.R_drew)); exact HO_7.out) (by decide)) hk (fun _ h => h.2)) (fun _ h => h.1)); have n1_ := Aside0.mk (KeepBut.trans (by repeat (first | (with_reducible first | exact HK.out | apply KeepBut.set_ | apply keep_drewN | apply keep_drew | apply keep_alloc) | exact HK.out)) hk (.inl rfl)); have n2_ := Aside0.mk (hb); have n3_ := Aside0.mk (hi); clear HO_7; clear HK; clear HB; clear HI2; have HO_7 := n0_; have HK := n1_; have HB := n2_; have HI2 := n3_; clear n0_ n1_ n2_ n3_; (try clear hb); (try clear hb2); (try clear hk); (try clear hi)) | ((with_reducible refine gate_dst (N := 10) rfl ?_); refine box_event ?hg (N := 10) ?hd (cs := #[.int .i64 0, .int .i64 0, .string (⟨#[]⟩ : ByteArray), .bool false]) (t := 29) ?hr ?_; (case hd => rfl); (case hg => rfl); (case hr => first | (go_simp; done) | (go_simp; rfl)); intro gb383 hg w16 hbox hb; have n0_ := Aside0.mk (Kd.R_below (Kd.R_elderB (by (with_reducible repeat (first | apply Kd.R_alloc | apply Kd.R_drewN | apply Kd.R_drew)); exact HO_7.out) gb383 (Nat.le_of_eq hg.symm)) hb); have n1_ := Aside0.mk (IsS60.below (by repeat (first | (with_reducible first | exact HI2.out | apply IsS60.alloc | apply IsS60.drewN | apply IsS60.drew | apply IsS60.set_1) | exact HI2.out)) hb); have n2_ := Aside0.mk (KeepBut.trans (by repeat (first | (with_reducible first | exact HK.out | apply KeepBut.set_ | apply keep_drewN | apply keep_drew | apply keep_alloc) | exact HK.out)) (KeepBut.of_below hb g none) (.inl rfl)); have n3_ := Aside0.mk (below_step (by repeat (first | (with_reducible first | exact HB.out | apply below_alloc | apply pw_below_drewN | apply below_drew1 | refine below_set ?_ (IsS60.ge HI2.out)) | exact HB.out)) hb); have n4_ := Aside0.mk (hbox); have n5_ := Aside0.mk ((by rw [hg]; exact (keep_size (w := w) (g := g) (row := none) (by repeat (first | (with_reducible first | exact HK.out | apply KeepBut.set_ | apply keep_drewN | apply keep_drew | apply keep_alloc) | exact HK.out))) : w.heap.size ≤ gb383)); have n6_ := Aside0.mk ((Nat.le_trans HW0.out (by rw [hg]; exact (keep_size (w := w) (g := g) (row := none) (by repeat (first | (with_reducible first | exact HK.out | apply KeepBut.set_ | apply keep_drewN | apply keep_drew | apply keep_alloc) | exact HK.out))) : w.heap.size ≤ gb383) : w0.heap.size ≤ gb383)); have n7_ := Aside0.mk ((by rw [hg]; exact Nat.ne_of_lt (IsS60.lt (show IsS60 w0 _ g (bytesOf a0) t382 from by repeat (first | (with_reducible first | exact HI2.out | apply IsS60.alloc | apply IsS60.drewN | apply IsS60.drew | apply IsS60.set_1) | exact HI2.out))) : g ≠ gb383)); have n8_ := Aside0.mk ((by rw [hg]; exact Nat.ne_of_gt (IsS60.lt (show IsS60 w0 _ g (bytesOf a0) t382 from by repeat (first | (with_reducible first | exact HI2.out | apply IsS60.alloc | apply IsS60.drewN | apply IsS60.drew | apply IsS60.set_1) | exact HI2.out))) : gb383 ≠ g)); clear HO_7; clear HI2; clear HK; clear HB; have HO_7 := n0_; have HI2 := n1_; have HK := n2_; have HB := n3_; have BK383 := n4_; have GW383 := n5_; have GE383 := n6_; have NB2_383 := n7_; have NB383_2 := n8_; clear n0_ n1_ n2_ n3_ n4_ n5_ n6_ n7_ n8_; clear hb hbox hg; have hnb17 := NB383_2.out; have hnc17 := NB2_383.out; obtain ⟨hcz18_0, hcz18_1, hcz18_2, hcz18_3⟩ := blkC4 w16 gb383 (.int .i64 0) (.int .i64 0) (.string (⟨#[]⟩ : ByteArray)) (.bool false) BK383.out; obtain ⟨hfz18_0, hfz18_1, hfz18_2, hfz18_3⟩ := blkF4 BK383.out))
       go_ret2
       exact HFIN.out _ _ ⟨_, by first | rfl | (simp [errW_none, errW_some] <;> rfl) | (simp [*, errW_none, errW_some] <;> rfl), by first | exact Kd.R_nil _ _ _ _ _ | exact Kd.N_nil _ _ _ _ _ | exact Kd.V_nil _ _ _ _ _ | exact Kd.Q_nil _ _ _ _ _ | exact Kd.S_nil _ _ _ _ _, by repeat (first | (with_reducible first | exact HI2.out | apply IsS60.alloc | apply IsS60.drewN | apply IsS60.drew | apply IsS60.set_1 | refine IsS60.far ?_ NB2_383.out _) | exact HI2.out), by repeat (first | (with_reducible first | exact HB.out | apply below_alloc | apply pw_below_drewN | apply below_drew1 | refine below_set ?_ (IsS60.ge HI2.out) | refine below_set ?_ GE383.out) | exact HB.out), by repeat (first | (with_reducible first | exact HK.out | apply KeepBut.set_ | apply keep_drewN | apply keep_drew | apply keep_alloc | refine keep_far ?_ GW383.out _) | exact HK.out)⟩
     ·rw [if_neg c6] at H
      exact absurd H (by simp)
    ·rw [if_neg c5] at H
     exact absurd H (by simp)
   ·rw [if_neg c4] at H
    have c4b0 : decide (x18_1 < (l1.length : Int)) = false := decide_eq_false c4
    clear c4
    by_cases c19 : x3001_1 = (a0.size : Int)
    ·rw [if_pos c19] at H
     have c19b0 : (x3001_1 == (a0.size : Int)) = true := beq_iff_eq.mpr c19
     have c19b1 : (x3001_1 != (a0.size : Int)) = false := bne_eq_false_iff_eq.mpr c19
     clear c19
     simp only [Option.some.injEq, Prod.mk.injEq] at H
     obtain ⟨rfl, rfl, rfl⟩ := H
     obtain ⟨ASz20_0, cSz20_0, HGz20, hgz20, HSz20_0, HCz20_0⟩ := HI2.out
     have hcz20_0 := cellS60_0 HGz20
     have hcz20_1 := cellS60_1 HGz20
     have hfz20_1 := blk_frozen HGz20 1
     clear HGz20 hgz20
     go_wp2
     go_ret2
     exact HFIN.out _ _ ⟨_, by first | rfl | (simp [errW_none, errW_some] <;> rfl) | (simp [*, errW_none, errW_some] <;> rfl), by (with_reducible repeat (first | apply Kd.R_alloc | apply Kd.R_drewN | apply Kd.R_drew)); exact HO_7.out, by repeat (first | (with_reducible first | exact HI2.out | apply IsS60.alloc | apply IsS60.drewN | apply IsS60.drew | apply IsS60.set_1) | exact HI2.out), by repeat (first | (with_reducible first | exact HB.out | apply below_alloc | apply pw_below_drewN | apply below_drew1 | refine below_set ?_ (IsS60.ge HI2.out)) | exact HB.out), by repeat (first | (with_reducible first | exact HK.out | apply KeepBut.set_ | apply keep_drewN | apply keep_drew | apply keep_alloc) | exact HK.out)⟩
    ·rw [if_neg c19] at H
     have c19b0 : (x3001_1 == (a0.size : Int)) = false := beq_eq_false_iff_ne.mpr c19
     have c19b1 : (x3001_1 != (a0.size : Int)) = true := bne_iff_ne.mpr c19
     simp only [Option.some.injEq, Prod.mk.injEq] at H
     obtain ⟨rfl, rfl, rfl⟩ := H
     obtain ⟨ASz21_0, cSz21_0, HGz21, hgz21, HSz21_0, HCz21_0⟩ := HI2.out
     have hcz21_0 := cellS60_0 HGz21
     have hcz21_1 := cellS60_1 HGz21
     have hfz21_1 := blk_frozen HGz21 1
     clear HGz21 hgz21
     go_wp2
     go_ret2
     exact HFIN.out _ _ ⟨_, by first | rfl | (simp [errW_none, errW_some] <;> rfl) | (simp [*, errW_none, errW_some] <;> rfl), by first | exact Kd.R_nil _ _ _ _ _ | exact Kd.N_nil _ _ _ _ _ | exact Kd.V_nil _ _ _ _ _ | exact Kd.Q_nil _ _ _ _ _ | exact Kd.S_nil _ _ _ _ _, by repeat (first | (with_reducible first | exact HI2.out | apply IsS60.alloc | apply IsS60.drewN | apply IsS60.drew | apply IsS60.set_1) | exact HI2.out), by repeat (first | (with_reducible first | exact HB.out | apply below_alloc | apply pw_below_drewN | apply below_drew1 | refine below_set ?_ (IsS60.ge HI2.out)) | exact HB.out), by repeat (first | (with_reducible first | exact HK.out | apply KeepBut.set_ | apply keep_drewN | apply keep_drew | apply keep_alloc) | exact HK.out)⟩
end Go.Proofs.YtcheinjlgojepaaDoor.P

/- awake of the frame's laws: chapter 3's examples. -/
import Derived.Lib.SlBytesConst
import Derived.Test.YtoadflcdpcfibaaOfframeSum
import Derived.Test.YtoadflcdpcfibaaOfframeSeal
import Derived.Test.YtoadflcdpcfibaaJoin
import Derived.Test.YtoadflcdpcfibaaOpenF
namespace Go.Proofs.Ytoadflcdpcfibaa.P
open Go.RowKit Go.Proofs.YtoadflcdpcfibaaW.PrintWords Go.Proofs.YtoadflcdpcfibaaW.PrintLast Go.Proofs.YtoadflcdpcfibaaW.PrintMore
set_option linter.unusedVariables false
set_option linter.unusedSimpArgs false
theorem C_lit {W : World} {g : Nat} {e : TypeId} {fr : Nat × Nat} (xs : List Int) (h : W.heap[g]? = some (.cells (xs.map (Value.int .u8)).toArray e fr)) (hx : xs.length ≤ 9223372036854775807) : Kd.C (Kd.int .u8) W (some ⟨g, 0, none⟩) xs.length xs := by
  refine Kd.C_of_reads (d := 0) (h1 := fun _ => rfl) ⟨rfl, hx, fun _ => ⟨_, rfl, fun j hj => ?_⟩⟩
  have : (⟨g, 0, none⟩ : Addr).add j = ⟨g, j, none⟩ := by unfold Addr.add; split <;> simp_all
  rw [this, cell_of_row W g j _ e fr h]
  simp [hj]
theorem drawn_below {W W' : World} (h : Drawn0 W W') : Below W.heap.size W W' := by
  obtain ⟨n, rfl⟩ := h
  exact ⟨rfl, rfl, rfl, Nat.le_refl _, fun _ _ => rfl⟩
/-! ### reeflaw03_awake: function 13 -/
def reeflaw03_awake.f (k : Nat)  : Option (Bool) := (frame_Seal.f k 7 (([104, 105] : List Int))).bind fun bt165 => ((frame_Open.f k (([0] : List Int))).bind fun bt172 => ((frame_Open.f k bt165.1).bind fun bt178 => ((frame_Sum.f k (([49, 50, 51, 52, 53, 54, 55, 56, 57] : List Int))).bind fun t187 => (if t187 = 3808858755 then (if bt165.2 = 0 then (if (bt165.1.length : Int) = 11 then (if 7 ≤ (bt165.1.length : Int) then (if (strOfNums (bt165.1.take 7)).toList = ([167, 7, 2, 0, 0, 104, 105] : List UInt8) then (if bt172.2.2.2 = 10 then (if bt178.2.2.2 = 0 then (if (strOfNums bt178.2.1).toList = ([104, 105] : List UInt8) then (if bt178.2.2.1 = 11 then ((frame_Sum.f k (([49, 50, 51, 52, 53] : List Int))).bind fun t195 => ((frame_Sum.f k (([54, 55, 56, 57] : List Int))).bind fun t199 => ((frame_Join.f t195 t199 4).bind fun t200 => (some (t200 == 3808858755))))) else (none)) else (none)) else (none)) else (none)) else (none)) else (none)) else (none)) else (none)) else (none)))))
theorem reeflaw03_awake.mono : ∀ k, LeO (reeflaw03_awake.f k ) (reeflaw03_awake.f (k + 1) ) := by
 intro  k
 unfold reeflaw03_awake.f
 repeat' first
   | (with_reducible exact frame_Open.mono _ _)
   | (with_reducible exact frame_Seal.mono _ _ _)
   | (with_reducible exact frame_Sum.mono _ _)
   | (with_reducible exact LeO.refl _)
   | (with_reducible exact LeO.none _)
   | (with_reducible refine LeO.ite ?_ ?_)
   | (with_reducible refine LeO.bind ?_ (fun _ => ?_))
   | exact frame_Open.mono _ _
   | exact frame_Seal.mono _ _ _
   | exact frame_Sum.mono _ _
   | exact LeO.none _
   | refine LeO.ite ?_ ?_
   | refine LeO.bind ?_ (fun _ => ?_)
set_option maxHeartbeats 8000000 in
set_option maxRecDepth 100000 in
theorem reeflaw03_awake.calls (k : Nat)  (r : Bool) (w : World) (h : reeflaw03_awake.f k  = some r) :
  Calls Try.prog 13 #[] w fun e w' => e = .returned (.bool r) ∧ Below w.heap.size w w' := by
 have HB := Aside0.mk (Below.refl w.heap.size w)
 have H : ((frame_Seal.f k 7 (([104, 105] : List Int))).bind fun bt165 => ((frame_Open.f k (([0] : List Int))).bind fun bt172 => ((frame_Open.f k bt165.1).bind fun bt178 => ((frame_Sum.f k (([49, 50, 51, 52, 53, 54, 55, 56, 57] : List Int))).bind fun t187 => (if t187 = 3808858755 then (if bt165.2 = 0 then (if (bt165.1.length : Int) = 11 then (if 7 ≤ (bt165.1.length : Int) then (if (strOfNums (bt165.1.take 7)).toList = ([167, 7, 2, 0, 0, 104, 105] : List UInt8) then (if bt172.2.2.2 = 10 then (if bt178.2.2.2 = 0 then (if (strOfNums bt178.2.1).toList = ([104, 105] : List UInt8) then (if bt178.2.2.1 = 11 then ((frame_Sum.f k (([49, 50, 51, 52, 53] : List Int))).bind fun t195 => ((frame_Sum.f k (([54, 55, 56, 57] : List Int))).bind fun t199 => ((frame_Join.f t195 t199 4).bind fun t200 => (some (t200 == 3808858755))))) else (none)) else (none)) else (none)) else (none)) else (none)) else (none)) else (none)) else (none)) else (none)))))) = some r := h
 clear h
 obtain ⟨y162, hy162⟩ : ∃ y_ : List Int, y_ = (([104, 105] : List Int)) := ⟨_, rfl⟩
 replace H : ((frame_Seal.f k 7 y162).bind fun bt165 => ((frame_Open.f k (([0] : List Int))).bind fun bt172 => ((frame_Open.f k bt165.1).bind fun bt178 => ((frame_Sum.f k (([49, 50, 51, 52, 53, 54, 55, 56, 57] : List Int))).bind fun t187 => (if t187 = 3808858755 then (if bt165.2 = 0 then (if (bt165.1.length : Int) = 11 then (if 7 ≤ (bt165.1.length : Int) then (if (strOfNums (bt165.1.take 7)).toList = ([167, 7, 2, 0, 0, 104, 105] : List UInt8) then (if bt172.2.2.2 = 10 then (if bt178.2.2.2 = 0 then (if (strOfNums bt178.2.1).toList = ([104, 105] : List UInt8) then (if bt178.2.2.1 = 11 then ((frame_Sum.f k (([49, 50, 51, 52, 53] : List Int))).bind fun t195 => ((frame_Sum.f k (([54, 55, 56, 57] : List Int))).bind fun t199 => ((frame_Join.f t195 t199 4).bind fun t200 => (some (t200 == 3808858755))))) else (none)) else (none)) else (none)) else (none)) else (none)) else (none)) else (none)) else (none)) else (none)))))) = some r := by first | (rw [hy162]; with_reducible exact H) | (have H2_ := (Option.bind_some _ _).symm.trans H; rw [hy162]; with_reducible exact H2_) | (have H2_ := (Option.bind_some _ _).symm.trans H; with_reducible exact H2_) | with_reducible exact H | (rw [hy162]; exact H) | exact H
 have Ny162 := Aside0.mk hy162
 clear hy162
 replace H := Option.bind_eq_some_iff.mp H
 obtain ⟨⟨t165, t166⟩, A10, H⟩ := H
 replace H : ((frame_Open.f k (([0] : List Int))).bind fun bt172 => ((frame_Open.f k t165).bind fun bt178 => ((frame_Sum.f k (([49, 50, 51, 52, 53, 54, 55, 56, 57] : List Int))).bind fun t187 => (if t187 = 3808858755 then (if t166 = 0 then (if (t165.length : Int) = 11 then (if 7 ≤ (t165.length : Int) then (if (strOfNums (t165.take 7)).toList = ([167, 7, 2, 0, 0, 104, 105] : List UInt8) then (if bt172.2.2.2 = 10 then (if bt178.2.2.2 = 0 then (if (strOfNums bt178.2.1).toList = ([104, 105] : List UInt8) then (if bt178.2.2.1 = 11 then ((frame_Sum.f k (([49, 50, 51, 52, 53] : List Int))).bind fun t195 => ((frame_Sum.f k (([54, 55, 56, 57] : List Int))).bind fun t199 => ((frame_Join.f t195 t199 4).bind fun t200 => (some (t200 == 3808858755))))) else (none)) else (none)) else (none)) else (none)) else (none)) else (none)) else (none)) else (none)) else (none))))) = some r := H
 have A1 := Aside0.mk A10
 clear A10
 obtain ⟨y169, hy169⟩ : ∃ y_ : List Int, y_ = (([0] : List Int)) := ⟨_, rfl⟩
 replace H : ((frame_Open.f k y169).bind fun bt172 => ((frame_Open.f k t165).bind fun bt178 => ((frame_Sum.f k (([49, 50, 51, 52, 53, 54, 55, 56, 57] : List Int))).bind fun t187 => (if t187 = 3808858755 then (if t166 = 0 then (if (t165.length : Int) = 11 then (if 7 ≤ (t165.length : Int) then (if (strOfNums (t165.take 7)).toList = ([167, 7, 2, 0, 0, 104, 105] : List UInt8) then (if bt172.2.2.2 = 10 then (if bt178.2.2.2 = 0 then (if (strOfNums bt178.2.1).toList = ([104, 105] : List UInt8) then (if bt178.2.2.1 = 11 then ((frame_Sum.f k (([49, 50, 51, 52, 53] : List Int))).bind fun t195 => ((frame_Sum.f k (([54, 55, 56, 57] : List Int))).bind fun t199 => ((frame_Join.f t195 t199 4).bind fun t200 => (some (t200 == 3808858755))))) else (none)) else (none)) else (none)) else (none)) else (none)) else (none)) else (none)) else (none)) else (none))))) = some r := by first | (rw [hy169]; with_reducible exact H) | (have H2_ := (Option.bind_some _ _).symm.trans H; rw [hy169]; with_reducible exact H2_) | (have H2_ := (Option.bind_some _ _).symm.trans H; with_reducible exact H2_) | with_reducible exact H | (rw [hy169]; exact H) | exact H
 have Ny169 := Aside0.mk hy169
 clear hy169
 replace H := Option.bind_eq_some_iff.mp H
 obtain ⟨⟨t172, t173, t174, t175⟩, A20, H⟩ := H
 replace H : ((frame_Open.f k t165).bind fun bt178 => ((frame_Sum.f k (([49, 50, 51, 52, 53, 54, 55, 56, 57] : List Int))).bind fun t187 => (if t187 = 3808858755 then (if t166 = 0 then (if (t165.length : Int) = 11 then (if 7 ≤ (t165.length : Int) then (if (strOfNums (t165.take 7)).toList = ([167, 7, 2, 0, 0, 104, 105] : List UInt8) then (if t175 = 10 then (if bt178.2.2.2 = 0 then (if (strOfNums bt178.2.1).toList = ([104, 105] : List UInt8) then (if bt178.2.2.1 = 11 then ((frame_Sum.f k (([49, 50, 51, 52, 53] : List Int))).bind fun t195 => ((frame_Sum.f k (([54, 55, 56, 57] : List Int))).bind fun t199 => ((frame_Join.f t195 t199 4).bind fun t200 => (some (t200 == 3808858755))))) else (none)) else (none)) else (none)) else (none)) else (none)) else (none)) else (none)) else (none)) else (none)))) = some r := H
 have A2 := Aside0.mk A20
 clear A20
 replace H := Option.bind_eq_some_iff.mp H
 obtain ⟨⟨t178, t179, t180, t181⟩, A30, H⟩ := H
 replace H : ((frame_Sum.f k (([49, 50, 51, 52, 53, 54, 55, 56, 57] : List Int))).bind fun t187 => (if t187 = 3808858755 then (if t166 = 0 then (if (t165.length : Int) = 11 then (if 7 ≤ (t165.length : Int) then (if (strOfNums (t165.take 7)).toList = ([167, 7, 2, 0, 0, 104, 105] : List UInt8) then (if t175 = 10 then (if t181 = 0 then (if (strOfNums t179).toList = ([104, 105] : List UInt8) then (if t180 = 11 then ((frame_Sum.f k (([49, 50, 51, 52, 53] : List Int))).bind fun t195 => ((frame_Sum.f k (([54, 55, 56, 57] : List Int))).bind fun t199 => ((frame_Join.f t195 t199 4).bind fun t200 => (some (t200 == 3808858755))))) else (none)) else (none)) else (none)) else (none)) else (none)) else (none)) else (none)) else (none)) else (none))) = some r := H
 have A3 := Aside0.mk A30
 clear A30
 obtain ⟨y184, hy184⟩ : ∃ y_ : List Int, y_ = (([49, 50, 51, 52, 53, 54, 55, 56, 57] : List Int)) := ⟨_, rfl⟩
 replace H : ((frame_Sum.f k y184).bind fun t187 => (if t187 = 3808858755 then (if t166 = 0 then (if (t165.length : Int) = 11 then (if 7 ≤ (t165.length : Int) then (if (strOfNums (t165.take 7)).toList = ([167, 7, 2, 0, 0, 104, 105] : List UInt8) then (if t175 = 10 then (if t181 = 0 then (if (strOfNums t179).toList = ([104, 105] : List UInt8) then (if t180 = 11 then ((frame_Sum.f k (([49, 50, 51, 52, 53] : List Int))).bind fun t195 => ((frame_Sum.f k (([54, 55, 56, 57] : List Int))).bind fun t199 => ((frame_Join.f t195 t199 4).bind fun t200 => (some (t200 == 3808858755))))) else (none)) else (none)) else (none)) else (none)) else (none)) else (none)) else (none)) else (none)) else (none))) = some r := by first | (rw [hy184]; with_reducible exact H) | (have H2_ := (Option.bind_some _ _).symm.trans H; rw [hy184]; with_reducible exact H2_) | (have H2_ := (Option.bind_some _ _).symm.trans H; with_reducible exact H2_) | with_reducible exact H | (rw [hy184]; exact H) | exact H
 have Ny184 := Aside0.mk hy184
 clear hy184
 replace H := Option.bind_eq_some_iff.mp H
 obtain ⟨t187, A40, H⟩ := H
 replace H : (if t187 = 3808858755 then (if t166 = 0 then (if (t165.length : Int) = 11 then (if 7 ≤ (t165.length : Int) then (if (strOfNums (t165.take 7)).toList = ([167, 7, 2, 0, 0, 104, 105] : List UInt8) then (if t175 = 10 then (if t181 = 0 then (if (strOfNums t179).toList = ([104, 105] : List UInt8) then (if t180 = 11 then ((frame_Sum.f k (([49, 50, 51, 52, 53] : List Int))).bind fun t195 => ((frame_Sum.f k (([54, 55, 56, 57] : List Int))).bind fun t199 => ((frame_Join.f t195 t199 4).bind fun t200 => (some (t200 == 3808858755))))) else (none)) else (none)) else (none)) else (none)) else (none)) else (none)) else (none)) else (none)) else (none)) = some r := H
 have A4 := Aside0.mk A40
 clear A40
 by_cases c5 : t187 = 3808858755
 ·rw [if_pos c5] at H
  have c5b0 : (t187 == 3808858755) = true := beq_iff_eq.mpr c5
  have c5b1 : (t187 != 3808858755) = false := bne_eq_false_iff_eq.mpr c5
  clear c5
  by_cases c6 : t166 = 0
  ·rw [if_pos c6] at H
   have c6b0 : (t166 == 0) = true := beq_iff_eq.mpr c6
   have c6b1 : (t166 != 0) = false := bne_eq_false_iff_eq.mpr c6
   clear c6
   by_cases c7 : (t165.length : Int) = 11
   ·rw [if_pos c7] at H
    have c7b0 : ((t165.length : Int) == 11) = true := beq_iff_eq.mpr c7
    have c7b1 : ((t165.length : Int) != 11) = false := bne_eq_false_iff_eq.mpr c7
    clear c7
    by_cases c8 : 7 ≤ (t165.length : Int)
    ·rw [if_pos c8] at H
     have c8b0 := eq_true c8
     have c8b1 : decide (7 ≤ (t165.length : Int)) = true := decide_eq_true c8
     clear c8
     obtain ⟨y188, hy188⟩ : ∃ y_ : List Int, y_ = (t165.take 7) := ⟨_, rfl⟩
     replace H : (if (strOfNums y188).toList = ([167, 7, 2, 0, 0, 104, 105] : List UInt8) then (if t175 = 10 then (if t181 = 0 then (if (strOfNums t179).toList = ([104, 105] : List UInt8) then (if t180 = 11 then ((frame_Sum.f k (([49, 50, 51, 52, 53] : List Int))).bind fun t195 => ((frame_Sum.f k (([54, 55, 56, 57] : List Int))).bind fun t199 => ((frame_Join.f t195 t199 4).bind fun t200 => (some (t200 == 3808858755))))) else (none)) else (none)) else (none)) else (none)) else (none)) = some r := by first | (rw [hy188]; with_reducible exact H) | (have H2_ := (Option.bind_some _ _).symm.trans H; rw [hy188]; with_reducible exact H2_) | (have H2_ := (Option.bind_some _ _).symm.trans H; with_reducible exact H2_) | with_reducible exact H | (rw [hy188]; exact H) | exact H
     have Ny188 := Aside0.mk hy188
     clear hy188
     by_cases c9 : (strOfNums y188).toList = ([167, 7, 2, 0, 0, 104, 105] : List UInt8)
     ·rw [if_pos c9] at H
      have c9b0 : ((strOfNums y188).toList == ([167, 7, 2, 0, 0, 104, 105] : List UInt8)) = true := beq_iff_eq.mpr c9
      have c9b1 : ((strOfNums y188).toList != ([167, 7, 2, 0, 0, 104, 105] : List UInt8)) = false := bne_eq_false_iff_eq.mpr c9
      clear c9
      by_cases c10 : t175 = 10
      ·rw [if_pos c10] at H
       have c10b0 : (t175 == 10) = true := beq_iff_eq.mpr c10
       have c10b1 : (t175 != 10) = false := bne_eq_false_iff_eq.mpr c10
       clear c10
       by_cases c11 : t181 = 0
       ·rw [if_pos c11] at H
        have c11b0 : (t181 == 0) = true := beq_iff_eq.mpr c11
        have c11b1 : (t181 != 0) = false := bne_eq_false_iff_eq.mpr c11
        clear c11
        by_cases c12 : (strOfNums t179).toList = ([104, 105] : List UInt8)
        ·rw [if_pos c12] at H
         have c12b0 : ((strOfNums t179).toList == ([104, 105] : List UInt8)) = true := beq_iff_eq.mpr c12
         have c12b1 : ((strOfNums t179).toList != ([104, 105] : List UInt8)) = false := bne_eq_false_iff_eq.mpr c12
         clear c12
         by_cases c13 : t180 = 11
         ·rw [if_pos c13] at H
          have c13b0 : (t180 == 11) = true := beq_iff_eq.mpr c13
          have c13b1 : (t180 != 11) = false := bne_eq_false_iff_eq.mpr c13
          clear c13
          obtain ⟨y192, hy192⟩ : ∃ y_ : List Int, y_ = (([49, 50, 51, 52, 53] : List Int)) := ⟨_, rfl⟩
          replace H : ((frame_Sum.f k y192).bind fun t195 => ((frame_Sum.f k (([54, 55, 56, 57] : List Int))).bind fun t199 => ((frame_Join.f t195 t199 4).bind fun t200 => (some (t200 == 3808858755))))) = some r := by first | (rw [hy192]; with_reducible exact H) | (have H2_ := (Option.bind_some _ _).symm.trans H; rw [hy192]; with_reducible exact H2_) | (have H2_ := (Option.bind_some _ _).symm.trans H; with_reducible exact H2_) | with_reducible exact H | (rw [hy192]; exact H) | exact H
          have Ny192 := Aside0.mk hy192
          clear hy192
          replace H := Option.bind_eq_some_iff.mp H
          obtain ⟨t195, A140, H⟩ := H
          replace H : ((frame_Sum.f k (([54, 55, 56, 57] : List Int))).bind fun t199 => ((frame_Join.f t195 t199 4).bind fun t200 => (some (t200 == 3808858755)))) = some r := H
          have A14 := Aside0.mk A140
          clear A140
          obtain ⟨y196, hy196⟩ : ∃ y_ : List Int, y_ = (([54, 55, 56, 57] : List Int)) := ⟨_, rfl⟩
          replace H : ((frame_Sum.f k y196).bind fun t199 => ((frame_Join.f t195 t199 4).bind fun t200 => (some (t200 == 3808858755)))) = some r := by first | (rw [hy196]; with_reducible exact H) | (have H2_ := (Option.bind_some _ _).symm.trans H; rw [hy196]; with_reducible exact H2_) | (have H2_ := (Option.bind_some _ _).symm.trans H; with_reducible exact H2_) | with_reducible exact H | (rw [hy196]; exact H) | exact H
          have Ny196 := Aside0.mk hy196
          clear hy196
          replace H := Option.bind_eq_some_iff.mp H
          obtain ⟨t199, A150, H⟩ := H
          replace H : ((frame_Join.f t195 t199 4).bind fun t200 => (some (t200 == 3808858755))) = some r := H
          have A15 := Aside0.mk A150
          clear A150
          replace H := Option.bind_eq_some_iff.mp H
          obtain ⟨t200, A160, H⟩ := H
          replace H : (some (t200 == 3808858755)) = some r := H
          have A16 := Aside0.mk A160
          clear A160
          obtain rfl := Option.some.inj H
          have e_y162 := Ny162.out
          subst e_y162
          clear Ny162
          have e_y169 := Ny169.out
          subst e_y169
          clear Ny169
          have e_y184 := Ny184.out
          subst e_y184
          clear Ny184
          have e_y192 := Ny192.out
          subst e_y192
          clear Ny192
          have e_y196 := Ny196.out
          subst e_y196
          clear Ny196
          have kc := fun (w : World) (C : Array Value) (n c : Nat) => Lib.run_convert_bytes_const (P := Try.prog) w 22 5 C n c Try.underlying22 Try.underlying5
          go_enter Try.func13, Try.ntmps13
          go_wp2_with fail
          (refine (frame_Seal.calls k 7 (some ⟨w.heap.size, 0, none⟩) 2 [104, 105] t165 t166 _ ?c1 (by decide) A1.out).mono ?_)
          case c1 => exact C_lit [104, 105] (heap_alloc_new _ _) (by decide)
          rintro e w1 ⟨v1, rfl, ho1, hb1⟩
          obtain ⟨Ao, co, e1⟩ := Kd.R_slice ho1
          subst e1
          have O1 := Aside0.mk ho1
          have B1 := Aside0.mk (((Below.refl w.heap.size w).alloc (Nat.le_refl _) (.cells #[.int .u8 104, .int .u8 105] 5 (2, 3))).trans (hb1.mono (by simp)))
          clear ho1 hb1
          go_wp2_with fail
          (refine (frame_Open.calls k (some ⟨w1.heap.size, 0, none⟩) 1 [0] t172 t173 t174 t175 _ ?c2 (by decide) A2.out).mono ?_)
          case c2 => exact C_lit [0] (heap_alloc_new _ _) (by decide)
          rintro e w2 ⟨v2, rfl, ho2, hb2⟩
          have O2 := Aside0.mk (Kd.R_below (Kd.R_alloc O1.out _) hb2)
          have B2 := Aside0.mk ((B1.out.alloc B1.out.size (.cells #[.int .u8 0] 5)).trans (hb2.mono (by have := B1.out.size; simp; omega)))
          clear ho2 hb2
          go_wp2_with fail
          (refine (frame_Open.calls k Ao co t165 t178 t179 t180 t181 _ ?c3 ?c4 A3.out).mono ?_)
          case c3 => exact (Kd.R_reads' O2.out).2.2
          case c4 => exact (Kd.R_reads' O2.out).2.1
          rintro e w3 ⟨v3, rfl, ho3, hb3⟩
          have O3 := Aside0.mk (Kd.R_below O2.out hb3)
          have B3 := Aside0.mk (B2.out.trans (hb3.mono B2.out.size))
          have P3 := Aside0.mk ho3
          clear ho3 hb3
          go_wp2_with fail
          (refine (frame_Sum.calls k (some ⟨w3.heap.size, 0, none⟩) 9 [49, 50, 51, 52, 53, 54, 55, 56, 57] t187 _ ?c5 (by decide) A4.out).mono ?_)
          case c5 => exact C_lit [49, 50, 51, 52, 53, 54, 55, 56, 57] (heap_alloc_new _ _) (by decide)
          rintro e w4 ⟨rfl, hd⟩
          obtain ⟨nd, hd⟩ := hd
          obtain ⟨W4, hW4⟩ : ∃ W4, w3.alloc (.cells #[.int .u8 49, .int .u8 50, .int .u8 51, .int .u8 52, .int .u8 53, .int .u8 54, .int .u8 55, .int .u8 56, .int .u8 57] 5 (9, 10)) = W4 := ⟨_, rfl⟩
          rw [hW4] at hd
          have O4 := Aside0.mk (show Kd.R (Kd.int .u8) 5 w4 _ _ _ _ from by rw [hd, ← hW4]; exact Kd.R_drewN (Kd.R_alloc O3.out _) nd)
          have P4 := Aside0.mk (show Kd.R (Kd.int .u8) 5 w4 _ _ _ _ from by rw [hd, ← hW4]; exact Kd.R_drewN (Kd.R_alloc P3.out _) nd)
          have B4 := Aside0.mk (show Below w.heap.size w w4 from by rw [hd, ← hW4]; exact pw_below_drewN (B3.out.alloc B3.out.size _) nd)
          clear hd hW4
          obtain ⟨i030, hi030, _, hsz30, _⟩ := info_parts info5
          have q30 : (7 : Int) ≤ ((t165.length : Int) : Int) := of_decide_eq_true (by first | (with_reducible assumption) | assumption)
          have hroom30 : t165.length ≤ co := (Kd.R_reads' O4.out).2.1
          have hC30 : Kd.C (Kd.int .u8) _ Ao t165.length t165 := (Kd.R_reads' O4.out).2.2
          have hcut30 := cut_to (P := Try.prog) 22 5 .i64 Try.underlying22 hi030 Ao t165.length co 7 (by omega) q30 hroom30
          have hr30 := Kd.C_take (m := 7) hC30 (by omega)
          have hy30 : y188.length = (7 : Int).toNat := (by rw [Ny188.out, List.length_take]; omega)
          rw [← Ny188.out] at hr30
          rw [← hy30] at hcut30
          have hcv31 := Kd.C_string (P := Try.prog) (A := Ao) (c := co) Try.underlying22 Try.underlying5 Try.underlying9 hr30
          have hcv32 := own_string (P := Try.prog) Try.underlying22 Try.underlying5 Try.underlying9 (Kd.own_of_R P4.out)
          clear hr30 hC30 hroom30 hi030 hsz30 hy30
          replace q30 := eq_true q30
          go_wp2_with fail
          (refine (frame_Sum.calls k (some ⟨w4.heap.size, 0, none⟩) 5 [49, 50, 51, 52, 53] t195 _ ?c6 (by decide) A14.out).mono ?_)
          case c6 => exact C_lit [49, 50, 51, 52, 53] (heap_alloc_new _ _) (by decide)
          rintro e w5 ⟨rfl, hd⟩
          have B5 := Aside0.mk ((B4.out.alloc B4.out.size (.cells #[.int .u8 49, .int .u8 50, .int .u8 51, .int .u8 52, .int .u8 53] 5 (5, 6))).trans ((drawn_below hd).mono (by have := B4.out.size; simp; omega)))
          clear hd hcv31 hcv32 hcut30
          go_wp2_with fail
          (refine (frame_Sum.calls k (some ⟨w5.heap.size, 0, none⟩) 4 [54, 55, 56, 57] t199 _ ?c7 (by decide) A15.out).mono ?_)
          case c7 => exact C_lit [54, 55, 56, 57] (heap_alloc_new _ _) (by decide)
          rintro e w6 ⟨rfl, hd⟩
          have B6 := Aside0.mk ((B5.out.alloc B5.out.size (.cells #[.int .u8 54, .int .u8 55, .int .u8 56, .int .u8 57] 5 (4, 5))).trans ((drawn_below hd).mono (by have := B5.out.size; simp; omega)))
          clear hd
          go_wp2_with fail
          (refine (frame_Join.calls t195 t199 4 t200 _ A16.out).mono ?_)
          rintro e w7 ⟨rfl, hb⟩
          have B7 := Aside0.mk (B6.out.trans (hb.mono B6.out.size))
          clear hb
          go_wp2
          go_ret
          exact ⟨rfl, B7.out⟩
         ·rw [if_neg c13] at H
          exact absurd H (by simp)
        ·rw [if_neg c12] at H
         exact absurd H (by simp)
       ·rw [if_neg c11] at H
        exact absurd H (by simp)
      ·rw [if_neg c10] at H
       exact absurd H (by simp)
     ·rw [if_neg c9] at H
      exact absurd H (by simp)
    ·rw [if_neg c8] at H
     exact absurd H (by simp)
   ·rw [if_neg c7] at H
    exact absurd H (by simp)
  ·rw [if_neg c6] at H
   exact absurd H (by simp)
 ·rw [if_neg c5] at H
  exact absurd H (by simp)

end Go.Proofs.Ytoadflcdpcfibaa.P

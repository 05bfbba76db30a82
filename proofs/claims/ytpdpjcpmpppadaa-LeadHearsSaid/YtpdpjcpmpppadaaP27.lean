-- left of the seat's texts by prune.py, a program of this session
import Derived.Test.YtpdpjcpmpppadaaP0
import Derived.Test.YtpdpjcpmpppadaaP4
import Derived.Test.YtpdpjcpmpppadaaP6
import Derived.Test.YtpdpjcpmpppadaaP9
import Derived.Test.YtpdpjcpmpppadaaP10
import Derived.Test.YtpdpjcpmpppadaaP11
import Derived.Test.YtpdpjcpmpppadaaP12
import Derived.Test.YtpdpjcpmpppadaaP13
import Derived.Test.YtpdpjcpmpppadaaP20
import Derived.Test.YtpdpjcpmpppadaaP24
import Derived.Test.YtpdpjcpmpppadaaHear
import Derived.Test.YtpdpjcpmpppadaaPick
import Derived.Test.YtpdpjcpmpppadaaRCopy
namespace Go.Proofs.Ytpdpjcpmpppadaa.P
open Go.RowKit Go.Proofs.YtpdpjcpmpppadaaW.PrintWords Go.Proofs.YtpdpjcpmpppadaaW.PrintLast Go.Proofs.YtpdpjcpmpppadaaW.PrintMore
attribute [local go_sem] max2_int min2_int max_two min_two max_three min_three max_four min_four   -- for this text's walks alone
set_option linter.unusedVariables false
set_option linter.unusedSimpArgs false
def reeflaw16_LeadHears.j0 : Nat → Int → Bool → Int → Int → Int → List (S39) → Bool → ByteArray → List Int → Int → Int → Int → List (S39) → Bool → ByteArray → List Int → Option (Bool)
 | 0, _, _, _, _, _, _, _, _, _, _, _, _, _, _, _, _ => none
 | k + 1, x5, x48, x293000, x293001, x293002, x293003, x293004, x293005, x293006, x333000, x333001, x333002, x333003, x333004, x333005, x333006 => if x48 = true then (none) else ((lead_Pick.f x333000 x333001 x333002 x333003 x333004 x333005 x333006 x5).bind fun bt358 => ((reefref16_Pick.f k x293000 x293001 x293002 x293003 x293004 x293005 x293006 x5).bind fun bt360 => (if bt358.1.toList = bt360.1.toList then (if (bt358.2 == bt360.2) = true then ((reefref16_Same.f k x333000 x333001 x333002 x333003 x333004 x333005 x333006 x293000 x293001 x293002 x293003 x293004 x293005 x293006).bind fun t362 => (if t362 = true then ((reeflaw16_awake.f k).bind fun t363 => (some t363)) else (none))) else (none)) else (none))))
def reeflaw16_LeadHears.f (k : Nat) (a0_0 : Int) (a0_1 : Int) (a0_2 : Int) (l0_3 : List (S39)) (a0_4 : Bool) (a0_5 : ByteArray) (l0_6 : List Int) (a1_0 : Int) (a1_1 : Int) (a2_0 : Int) (a2_1 : Int) (a2_2 : Bool) (a2_3 : Int) (a2_4 : Int) (a2_5 : ByteArray) (a3_0 : Int) (a3_1 : Int) (a3_2 : Bool) (a3_3 : Int) (a3_4 : Int) (a3_5 : ByteArray) (a4 : Int) (a5 : Int) : Option (Bool) := (lead_Begin.f a1_0 a1_1 a2_0 a2_1 a2_2 a2_3 a2_4 a2_5).bind fun bt296 => ((reefref16_Begin.f a1_0 a1_1 a2_0 a2_1 a2_2 a2_3 a2_4 a2_5).bind fun bt307 => ((lead_Same.f k bt296.1 bt296.2.1 bt296.2.2.1 bt296.2.2.2.1 bt296.2.2.2.2.1 bt296.2.2.2.2.2.1 bt296.2.2.2.2.2.2 bt307.1 bt307.2.1 bt307.2.2.1 bt307.2.2.2.1 bt307.2.2.2.2.1 bt307.2.2.2.2.2.1 bt307.2.2.2.2.2.2).bind fun t318 => (if t318 = true then ((reefref16_Rises.f k a0_0 a0_1 a0_2 l0_3 a0_4 a0_5 l0_6).bind fun t319 => (if t319 = true then ((reefref16_Copy.f a0_0 a0_1 a0_2 l0_3 a0_4 a0_5 l0_6).bind fun bt321 => ((lead_Hear.f k bt321.1 bt321.2.1 bt321.2.2.1 bt321.2.2.2.1 bt321.2.2.2.2.1 bt321.2.2.2.2.2.1 bt321.2.2.2.2.2.2 a3_0 a3_1 a3_2 a3_3 a3_4 a3_5).bind fun bt333 => ((reefref16_Hear.f k a0_0 a0_1 a0_2 l0_3 a0_4 a0_5 l0_6 a3_0 a3_1 a3_2 a3_3 a3_4 a3_5).bind fun bt344 => ((reefref16_Same.f k bt333.1 bt333.2.1 bt333.2.2.1 bt333.2.2.2.1 bt333.2.2.2.2.1 bt333.2.2.2.2.2.1 bt333.2.2.2.2.2.2 bt344.1 bt344.2.1 bt344.2.2.1 bt344.2.2.2.1 bt344.2.2.2.2.1 bt344.2.2.2.2.2.1 bt344.2.2.2.2.2.2).bind fun t355 => (if t355 = true then ((lead_Enough.f bt321.1 bt321.2.1 bt321.2.2.1 bt321.2.2.2.1 bt321.2.2.2.2.1 bt321.2.2.2.2.2.1 bt321.2.2.2.2.2.2 a4).bind fun t356 => ((reefref16_Enough.f a0_0 a0_1 a0_2 l0_3 a0_4 a0_5 l0_6 a4).bind fun t357 => (reeflaw16_LeadHears.j0 k a5 (t356 != t357) a0_0 a0_1 a0_2 l0_3 a0_4 a0_5 l0_6 bt321.1 bt321.2.1 bt321.2.2.1 bt321.2.2.2.1 bt321.2.2.2.2.1 bt321.2.2.2.2.2.1 bt321.2.2.2.2.2.2))) else (none)))))) else ((reeflaw16_awake.f k).bind fun t320 => (some t320)))) else (none))))
theorem reeflaw16_LeadHears.mono_l : ∀ k, (∀ y0 y1 y2 y3 y4 y5 y6 y7 y8 y9 y10 y11 y12 y13 y14 y15, LeO (reeflaw16_LeadHears.j0 k y0 y1 y2 y3 y4 y5 y6 y7 y8 y9 y10 y11 y12 y13 y14 y15) (reeflaw16_LeadHears.j0 (k + 1) y0 y1 y2 y3 y4 y5 y6 y7 y8 y9 y10 y11 y12 y13 y14 y15))
 | 0 => fun _ _ _ _ _ _ _ _ _ _ _ _ _ _ _ _ r h => by simp [reeflaw16_LeadHears.j0] at h
 | k + 1 => by
  have ih0 := reeflaw16_LeadHears.mono_l k
  ·intro y0 y1 y2 y3 y4 y5 y6 y7 y8 y9 y10 y11 y12 y13 y14 y15
   unfold reeflaw16_LeadHears.j0
   repeat' first
   | (with_reducible exact ih0 _ _ _ _ _ _ _ _ _ _ _ _ _ _ _ _)
   | (with_reducible exact lead_Hear.mono _ _ _ _ _ _ _ _ _ _ _ _ _ _)
   | (with_reducible exact lead_Same.mono _ _ _ _ _ _ _ _ _ _ _ _ _ _ _)
   | (with_reducible exact reeflaw16_awake.mono _)
   | (with_reducible exact reefref16_Hear.mono _ _ _ _ _ _ _ _ _ _ _ _ _ _)
   | (with_reducible exact reefref16_Pick.mono _ _ _ _ _ _ _ _ _)
   | (with_reducible exact reefref16_Rises.mono _ _ _ _ _ _ _ _)
   | (with_reducible exact reefref16_Same.mono _ _ _ _ _ _ _ _ _ _ _ _ _ _ _)
   | (with_reducible exact LeO.refl _)
   | (with_reducible exact LeO.none _)
   | (with_reducible refine LeO.ite ?_ ?_)
   | (with_reducible refine LeO.bind ?_ (fun _ => ?_))
   | exact ih0 _ _ _ _ _ _ _ _ _ _ _ _ _ _ _ _
   | exact lead_Hear.mono _ _ _ _ _ _ _ _ _ _ _ _ _ _
   | exact lead_Same.mono _ _ _ _ _ _ _ _ _ _ _ _ _ _ _
   | exact reeflaw16_awake.mono _
   | exact reefref16_Hear.mono _ _ _ _ _ _ _ _ _ _ _ _ _ _
   | exact reefref16_Pick.mono _ _ _ _ _ _ _ _ _
   | exact reefref16_Rises.mono _ _ _ _ _ _ _ _
   | exact reefref16_Same.mono _ _ _ _ _ _ _ _ _ _ _ _ _ _ _
   | exact LeO.none _
   | refine LeO.ite ?_ ?_
   | refine LeO.bind ?_ (fun _ => ?_)
theorem reeflaw16_LeadHears.mono : ∀ a0 a1 a2 a3 a4 a5 a6 a7 a8 a9 a10 a11 a12 a13 a14 a15 a16 a17 a18 a19 a20 a21 a22 k, LeO (reeflaw16_LeadHears.f k a0 a1 a2 a3 a4 a5 a6 a7 a8 a9 a10 a11 a12 a13 a14 a15 a16 a17 a18 a19 a20 a21 a22) (reeflaw16_LeadHears.f (k + 1) a0 a1 a2 a3 a4 a5 a6 a7 a8 a9 a10 a11 a12 a13 a14 a15 a16 a17 a18 a19 a20 a21 a22) := by
 intro a0 a1 a2 a3 a4 a5 a6 a7 a8 a9 a10 a11 a12 a13 a14 a15 a16 a17 a18 a19 a20 a21 a22 k
 have ih0 := reeflaw16_LeadHears.mono_l k
 unfold reeflaw16_LeadHears.f
 repeat' first
   | (with_reducible exact ih0 _ _ _ _ _ _ _ _ _ _ _ _ _ _ _ _)
   | (with_reducible exact lead_Hear.mono _ _ _ _ _ _ _ _ _ _ _ _ _ _)
   | (with_reducible exact lead_Same.mono _ _ _ _ _ _ _ _ _ _ _ _ _ _ _)
   | (with_reducible exact reeflaw16_awake.mono _)
   | (with_reducible exact reefref16_Hear.mono _ _ _ _ _ _ _ _ _ _ _ _ _ _)
   | (with_reducible exact reefref16_Pick.mono _ _ _ _ _ _ _ _ _)
   | (with_reducible exact reefref16_Rises.mono _ _ _ _ _ _ _ _)
   | (with_reducible exact reefref16_Same.mono _ _ _ _ _ _ _ _ _ _ _ _ _ _ _)
   | (with_reducible exact LeO.refl _)
   | (with_reducible exact LeO.none _)
   | (with_reducible refine LeO.ite ?_ ?_)
   | (with_reducible refine LeO.bind ?_ (fun _ => ?_))
   | exact ih0 _ _ _ _ _ _ _ _ _ _ _ _ _ _ _ _
   | exact lead_Hear.mono _ _ _ _ _ _ _ _ _ _ _ _ _ _
   | exact lead_Same.mono _ _ _ _ _ _ _ _ _ _ _ _ _ _ _
   | exact reeflaw16_awake.mono _
   | exact reefref16_Hear.mono _ _ _ _ _ _ _ _ _ _ _ _ _ _
   | exact reefref16_Pick.mono _ _ _ _ _ _ _ _ _
   | exact reefref16_Rises.mono _ _ _ _ _ _ _ _
   | exact reefref16_Same.mono _ _ _ _ _ _ _ _ _ _ _ _ _ _ _
   | exact LeO.none _
   | refine LeO.ite ?_ ?_
   | refine LeO.bind ?_ (fun _ => ?_)
def reeflaw16_LeadHears.T1 : Bool × List (List Nat × List Nat) := (true, [([], []), ([], []), ([0, 1], [0, 1]), ([], []), ([], []), ([3, 4, 2], [3, 4]), ([2, 5, 5], [2, 5]), ([6], [6])])
def reeflaw16_LeadHears.B1 : List Nat := [0, 0, 3, 0, 0, 31, 63, 127]
theorem reeflaw16_LeadHears.tab1 : rtab .any (opsOf Try.f5 1) = reeflaw16_LeadHears.T1 := by kernel_rfl
theorem reeflaw16_LeadHears.bits1 : waitsOk reeflaw16_LeadHears.T1.2 reeflaw16_LeadHears.B1 = true := by kernel_rfl
def reeflaw16_LeadHears.T6 : Bool × List (List Nat × List Nat) := (true, [([], []), ([], []), ([0, 1], [0, 1]), ([], []), ([], []), ([3, 4, 2], [3, 4]), ([2, 5, 5], [2, 5]), ([6], [6]), ([7, 6], [7]), ([8], [8]), ([8], [8]), ([9, 10, 8, 8], [8, 9, 10]), ([8], [8]), ([8], [8]), ([12, 13, 11, 8], [8, 12, 13]), ([11, 14, 8], [8, 11, 14]), ([8, 15], [8, 15])])
def reeflaw16_LeadHears.B6 : List Nat := [0, 0, 3, 0, 0, 31, 63, 127, 255, 511, 511, 2047, 511, 511, 16383, 32767, 65535]
theorem reeflaw16_LeadHears.tab6 : rtab .any (opsOf Try.f5 6) = reeflaw16_LeadHears.T6 := by kernel_rfl
theorem reeflaw16_LeadHears.bits6 : waitsOk reeflaw16_LeadHears.T6.2 reeflaw16_LeadHears.B6 = true := by kernel_rfl
set_option maxHeartbeats 8000000 in
set_option maxRecDepth 100000 in
theorem reeflaw16_LeadHears.calls (k : Nat) (a0_0 : Int) (a0_1 : Int) (a0_2 : Int) (A0_3 : Option Addr) (c0_3 : Nat) (l0_3 : List (S39)) (a0_4 : Bool) (a0_5 : ByteArray) (A0_6 : Option Addr) (c0_6 : Nat) (l0_6 : List Int) (a1_0 : Int) (a1_1 : Int) (a2_0 : Int) (a2_1 : Int) (a2_2 : Bool) (a2_3 : Int) (a2_4 : Int) (a2_5 : ByteArray) (a3_0 : Int) (a3_1 : Int) (a3_2 : Bool) (a3_3 : Int) (a3_4 : Int) (a3_5 : ByteArray) (a4 : Int) (a5 : Int) (r : Bool) (w : World) (hr0_3 : Kd.C k39 w A0_3 l0_3.length l0_3) (hc0_3 : l0_3.length ≤ c0_3) (hr0_6 : Kd.C (Kd.int .i64) w A0_6 l0_6.length l0_6) (hc0_6 : l0_6.length ≤ c0_6) (h : reeflaw16_LeadHears.f k a0_0 a0_1 a0_2 l0_3 a0_4 a0_5 l0_6 a1_0 a1_1 a2_0 a2_1 a2_2 a2_3 a2_4 a2_5 a3_0 a3_1 a3_2 a3_3 a3_4 a3_5 a4 a5 = some r) :
  Calls Try.prog 5 #[.agg #[.int .i64 a0_0, .int .i64 a0_1, .int .i64 a0_2, .slice A0_3 l0_3.length c0_3, .bool a0_4, .string a0_5, .slice A0_6 l0_6.length c0_6], .agg #[.int .i64 a1_0, .int .i64 a1_1], .agg #[.int .i64 a2_0, .int .i64 a2_1, .bool a2_2, .int .i64 a2_3, .int .i64 a2_4, .string a2_5], .agg #[.int .i64 a3_0, .int .i64 a3_1, .bool a3_2, .int .i64 a3_3, .int .i64 a3_4, .string a3_5], .int .i64 a4, .int .i64 a5] w fun e w' => e = .returned (.bool r) ∧ Below w.heap.size w w' := by
 have hu37 := Try.underlying37
 have hu23 := Try.underlying23
 have hu39 := Try.underlying39
 have HR0_3 := Aside0.mk hr0_3
 have HC0_3 := Aside0.mk hc0_3
 clear hr0_3 hc0_3
 have HR0_6 := Aside0.mk hr0_6
 have HC0_6 := Aside0.mk hc0_6
 clear hr0_6 hc0_6
 have HB := Aside0.mk (Below.refl w.heap.size w)
 have H : ((lead_Begin.f a1_0 a1_1 a2_0 a2_1 a2_2 a2_3 a2_4 a2_5).bind fun bt296 => ((reefref16_Begin.f a1_0 a1_1 a2_0 a2_1 a2_2 a2_3 a2_4 a2_5).bind fun bt307 => ((lead_Same.f k bt296.1 bt296.2.1 bt296.2.2.1 bt296.2.2.2.1 bt296.2.2.2.2.1 bt296.2.2.2.2.2.1 bt296.2.2.2.2.2.2 bt307.1 bt307.2.1 bt307.2.2.1 bt307.2.2.2.1 bt307.2.2.2.2.1 bt307.2.2.2.2.2.1 bt307.2.2.2.2.2.2).bind fun t318 => (if t318 = true then ((reefref16_Rises.f k a0_0 a0_1 a0_2 l0_3 a0_4 a0_5 l0_6).bind fun t319 => (if t319 = true then ((reefref16_Copy.f a0_0 a0_1 a0_2 l0_3 a0_4 a0_5 l0_6).bind fun bt321 => ((lead_Hear.f k bt321.1 bt321.2.1 bt321.2.2.1 bt321.2.2.2.1 bt321.2.2.2.2.1 bt321.2.2.2.2.2.1 bt321.2.2.2.2.2.2 a3_0 a3_1 a3_2 a3_3 a3_4 a3_5).bind fun bt333 => ((reefref16_Hear.f k a0_0 a0_1 a0_2 l0_3 a0_4 a0_5 l0_6 a3_0 a3_1 a3_2 a3_3 a3_4 a3_5).bind fun bt344 => ((reefref16_Same.f k bt333.1 bt333.2.1 bt333.2.2.1 bt333.2.2.2.1 bt333.2.2.2.2.1 bt333.2.2.2.2.2.1 bt333.2.2.2.2.2.2 bt344.1 bt344.2.1 bt344.2.2.1 bt344.2.2.2.1 bt344.2.2.2.2.1 bt344.2.2.2.2.2.1 bt344.2.2.2.2.2.2).bind fun t355 => (if t355 = true then ((lead_Enough.f bt321.1 bt321.2.1 bt321.2.2.1 bt321.2.2.2.1 bt321.2.2.2.2.1 bt321.2.2.2.2.2.1 bt321.2.2.2.2.2.2 a4).bind fun t356 => ((reefref16_Enough.f a0_0 a0_1 a0_2 l0_3 a0_4 a0_5 l0_6 a4).bind fun t357 => (reeflaw16_LeadHears.j0 k a5 (t356 != t357) a0_0 a0_1 a0_2 l0_3 a0_4 a0_5 l0_6 bt321.1 bt321.2.1 bt321.2.2.1 bt321.2.2.2.1 bt321.2.2.2.2.1 bt321.2.2.2.2.2.1 bt321.2.2.2.2.2.2))) else (none)))))) else ((reeflaw16_awake.f k).bind fun t320 => (some t320)))) else (none))))) = some r := h
 clear h
 replace H := Option.bind_eq_some_iff.mp H
 obtain ⟨⟨t296, t297, t298, t299, t302, t303, t304⟩, A70, H⟩ := H
 replace H : ((reefref16_Begin.f a1_0 a1_1 a2_0 a2_1 a2_2 a2_3 a2_4 a2_5).bind fun bt307 => ((lead_Same.f k t296 t297 t298 t299 t302 t303 t304 bt307.1 bt307.2.1 bt307.2.2.1 bt307.2.2.2.1 bt307.2.2.2.2.1 bt307.2.2.2.2.2.1 bt307.2.2.2.2.2.2).bind fun t318 => (if t318 = true then ((reefref16_Rises.f k a0_0 a0_1 a0_2 l0_3 a0_4 a0_5 l0_6).bind fun t319 => (if t319 = true then ((reefref16_Copy.f a0_0 a0_1 a0_2 l0_3 a0_4 a0_5 l0_6).bind fun bt321 => ((lead_Hear.f k bt321.1 bt321.2.1 bt321.2.2.1 bt321.2.2.2.1 bt321.2.2.2.2.1 bt321.2.2.2.2.2.1 bt321.2.2.2.2.2.2 a3_0 a3_1 a3_2 a3_3 a3_4 a3_5).bind fun bt333 => ((reefref16_Hear.f k a0_0 a0_1 a0_2 l0_3 a0_4 a0_5 l0_6 a3_0 a3_1 a3_2 a3_3 a3_4 a3_5).bind fun bt344 => ((reefref16_Same.f k bt333.1 bt333.2.1 bt333.2.2.1 bt333.2.2.2.1 bt333.2.2.2.2.1 bt333.2.2.2.2.2.1 bt333.2.2.2.2.2.2 bt344.1 bt344.2.1 bt344.2.2.1 bt344.2.2.2.1 bt344.2.2.2.2.1 bt344.2.2.2.2.2.1 bt344.2.2.2.2.2.2).bind fun t355 => (if t355 = true then ((lead_Enough.f bt321.1 bt321.2.1 bt321.2.2.1 bt321.2.2.2.1 bt321.2.2.2.2.1 bt321.2.2.2.2.2.1 bt321.2.2.2.2.2.2 a4).bind fun t356 => ((reefref16_Enough.f a0_0 a0_1 a0_2 l0_3 a0_4 a0_5 l0_6 a4).bind fun t357 => (reeflaw16_LeadHears.j0 k a5 (t356 != t357) a0_0 a0_1 a0_2 l0_3 a0_4 a0_5 l0_6 bt321.1 bt321.2.1 bt321.2.2.1 bt321.2.2.2.1 bt321.2.2.2.2.1 bt321.2.2.2.2.2.1 bt321.2.2.2.2.2.2))) else (none)))))) else ((reeflaw16_awake.f k).bind fun t320 => (some t320)))) else (none)))) = some r := H
 have A7 := Aside0.mk A70
 clear A70
 replace H := Option.bind_eq_some_iff.mp H
 obtain ⟨⟨t307, t308, t309, t310, t313, t314, t315⟩, A80, H⟩ := H
 replace H : ((lead_Same.f k t296 t297 t298 t299 t302 t303 t304 t307 t308 t309 t310 t313 t314 t315).bind fun t318 => (if t318 = true then ((reefref16_Rises.f k a0_0 a0_1 a0_2 l0_3 a0_4 a0_5 l0_6).bind fun t319 => (if t319 = true then ((reefref16_Copy.f a0_0 a0_1 a0_2 l0_3 a0_4 a0_5 l0_6).bind fun bt321 => ((lead_Hear.f k bt321.1 bt321.2.1 bt321.2.2.1 bt321.2.2.2.1 bt321.2.2.2.2.1 bt321.2.2.2.2.2.1 bt321.2.2.2.2.2.2 a3_0 a3_1 a3_2 a3_3 a3_4 a3_5).bind fun bt333 => ((reefref16_Hear.f k a0_0 a0_1 a0_2 l0_3 a0_4 a0_5 l0_6 a3_0 a3_1 a3_2 a3_3 a3_4 a3_5).bind fun bt344 => ((reefref16_Same.f k bt333.1 bt333.2.1 bt333.2.2.1 bt333.2.2.2.1 bt333.2.2.2.2.1 bt333.2.2.2.2.2.1 bt333.2.2.2.2.2.2 bt344.1 bt344.2.1 bt344.2.2.1 bt344.2.2.2.1 bt344.2.2.2.2.1 bt344.2.2.2.2.2.1 bt344.2.2.2.2.2.2).bind fun t355 => (if t355 = true then ((lead_Enough.f bt321.1 bt321.2.1 bt321.2.2.1 bt321.2.2.2.1 bt321.2.2.2.2.1 bt321.2.2.2.2.2.1 bt321.2.2.2.2.2.2 a4).bind fun t356 => ((reefref16_Enough.f a0_0 a0_1 a0_2 l0_3 a0_4 a0_5 l0_6 a4).bind fun t357 => (reeflaw16_LeadHears.j0 k a5 (t356 != t357) a0_0 a0_1 a0_2 l0_3 a0_4 a0_5 l0_6 bt321.1 bt321.2.1 bt321.2.2.1 bt321.2.2.2.1 bt321.2.2.2.2.1 bt321.2.2.2.2.2.1 bt321.2.2.2.2.2.2))) else (none)))))) else ((reeflaw16_awake.f k).bind fun t320 => (some t320)))) else (none))) = some r := H
 have A8 := Aside0.mk A80
 clear A80
 replace H := Option.bind_eq_some_iff.mp H
 obtain ⟨t318, A90, H⟩ := H
 replace H : (if t318 = true then ((reefref16_Rises.f k a0_0 a0_1 a0_2 l0_3 a0_4 a0_5 l0_6).bind fun t319 => (if t319 = true then ((reefref16_Copy.f a0_0 a0_1 a0_2 l0_3 a0_4 a0_5 l0_6).bind fun bt321 => ((lead_Hear.f k bt321.1 bt321.2.1 bt321.2.2.1 bt321.2.2.2.1 bt321.2.2.2.2.1 bt321.2.2.2.2.2.1 bt321.2.2.2.2.2.2 a3_0 a3_1 a3_2 a3_3 a3_4 a3_5).bind fun bt333 => ((reefref16_Hear.f k a0_0 a0_1 a0_2 l0_3 a0_4 a0_5 l0_6 a3_0 a3_1 a3_2 a3_3 a3_4 a3_5).bind fun bt344 => ((reefref16_Same.f k bt333.1 bt333.2.1 bt333.2.2.1 bt333.2.2.2.1 bt333.2.2.2.2.1 bt333.2.2.2.2.2.1 bt333.2.2.2.2.2.2 bt344.1 bt344.2.1 bt344.2.2.1 bt344.2.2.2.1 bt344.2.2.2.2.1 bt344.2.2.2.2.2.1 bt344.2.2.2.2.2.2).bind fun t355 => (if t355 = true then ((lead_Enough.f bt321.1 bt321.2.1 bt321.2.2.1 bt321.2.2.2.1 bt321.2.2.2.2.1 bt321.2.2.2.2.2.1 bt321.2.2.2.2.2.2 a4).bind fun t356 => ((reefref16_Enough.f a0_0 a0_1 a0_2 l0_3 a0_4 a0_5 l0_6 a4).bind fun t357 => (reeflaw16_LeadHears.j0 k a5 (t356 != t357) a0_0 a0_1 a0_2 l0_3 a0_4 a0_5 l0_6 bt321.1 bt321.2.1 bt321.2.2.1 bt321.2.2.2.1 bt321.2.2.2.2.1 bt321.2.2.2.2.2.1 bt321.2.2.2.2.2.2))) else (none)))))) else ((reeflaw16_awake.f k).bind fun t320 => (some t320)))) else (none)) = some r := H
 have A9 := Aside0.mk A90
 clear A90
 by_cases c10 : t318 = true
 ·subst c10
  have H1 : ((reefref16_Rises.f k a0_0 a0_1 a0_2 l0_3 a0_4 a0_5 l0_6).bind fun t319 => (if t319 = true then ((reefref16_Copy.f a0_0 a0_1 a0_2 l0_3 a0_4 a0_5 l0_6).bind fun bt321 => ((lead_Hear.f k bt321.1 bt321.2.1 bt321.2.2.1 bt321.2.2.2.1 bt321.2.2.2.2.1 bt321.2.2.2.2.2.1 bt321.2.2.2.2.2.2 a3_0 a3_1 a3_2 a3_3 a3_4 a3_5).bind fun bt333 => ((reefref16_Hear.f k a0_0 a0_1 a0_2 l0_3 a0_4 a0_5 l0_6 a3_0 a3_1 a3_2 a3_3 a3_4 a3_5).bind fun bt344 => ((reefref16_Same.f k bt333.1 bt333.2.1 bt333.2.2.1 bt333.2.2.2.1 bt333.2.2.2.2.1 bt333.2.2.2.2.2.1 bt333.2.2.2.2.2.2 bt344.1 bt344.2.1 bt344.2.2.1 bt344.2.2.2.1 bt344.2.2.2.2.1 bt344.2.2.2.2.2.1 bt344.2.2.2.2.2.2).bind fun t355 => (if t355 = true then ((lead_Enough.f bt321.1 bt321.2.1 bt321.2.2.1 bt321.2.2.2.1 bt321.2.2.2.2.1 bt321.2.2.2.2.2.1 bt321.2.2.2.2.2.2 a4).bind fun t356 => ((reefref16_Enough.f a0_0 a0_1 a0_2 l0_3 a0_4 a0_5 l0_6 a4).bind fun t357 => (reeflaw16_LeadHears.j0 k a5 (t356 != t357) a0_0 a0_1 a0_2 l0_3 a0_4 a0_5 l0_6 bt321.1 bt321.2.1 bt321.2.2.1 bt321.2.2.2.1 bt321.2.2.2.2.1 bt321.2.2.2.2.2.1 bt321.2.2.2.2.2.2))) else (none)))))) else ((reeflaw16_awake.f k).bind fun t320 => (some t320)))) = some r := by rw [if_pos rfl] at H; exact H
  clear H
  have H := H1
  clear H1
  replace H := Option.bind_eq_some_iff.mp H
  obtain ⟨t319, A110, H⟩ := H
  replace H : (if t319 = true then ((reefref16_Copy.f a0_0 a0_1 a0_2 l0_3 a0_4 a0_5 l0_6).bind fun bt321 => ((lead_Hear.f k bt321.1 bt321.2.1 bt321.2.2.1 bt321.2.2.2.1 bt321.2.2.2.2.1 bt321.2.2.2.2.2.1 bt321.2.2.2.2.2.2 a3_0 a3_1 a3_2 a3_3 a3_4 a3_5).bind fun bt333 => ((reefref16_Hear.f k a0_0 a0_1 a0_2 l0_3 a0_4 a0_5 l0_6 a3_0 a3_1 a3_2 a3_3 a3_4 a3_5).bind fun bt344 => ((reefref16_Same.f k bt333.1 bt333.2.1 bt333.2.2.1 bt333.2.2.2.1 bt333.2.2.2.2.1 bt333.2.2.2.2.2.1 bt333.2.2.2.2.2.2 bt344.1 bt344.2.1 bt344.2.2.1 bt344.2.2.2.1 bt344.2.2.2.2.1 bt344.2.2.2.2.2.1 bt344.2.2.2.2.2.2).bind fun t355 => (if t355 = true then ((lead_Enough.f bt321.1 bt321.2.1 bt321.2.2.1 bt321.2.2.2.1 bt321.2.2.2.2.1 bt321.2.2.2.2.2.1 bt321.2.2.2.2.2.2 a4).bind fun t356 => ((reefref16_Enough.f a0_0 a0_1 a0_2 l0_3 a0_4 a0_5 l0_6 a4).bind fun t357 => (reeflaw16_LeadHears.j0 k a5 (t356 != t357) a0_0 a0_1 a0_2 l0_3 a0_4 a0_5 l0_6 bt321.1 bt321.2.1 bt321.2.2.1 bt321.2.2.2.1 bt321.2.2.2.2.1 bt321.2.2.2.2.2.1 bt321.2.2.2.2.2.2))) else (none)))))) else ((reeflaw16_awake.f k).bind fun t320 => (some t320))) = some r := H
  have A11 := Aside0.mk A110
  clear A110
  by_cases c12 : t319 = true
  ·subst c12
   have H1 : ((reefref16_Copy.f a0_0 a0_1 a0_2 l0_3 a0_4 a0_5 l0_6).bind fun bt321 => ((lead_Hear.f k bt321.1 bt321.2.1 bt321.2.2.1 bt321.2.2.2.1 bt321.2.2.2.2.1 bt321.2.2.2.2.2.1 bt321.2.2.2.2.2.2 a3_0 a3_1 a3_2 a3_3 a3_4 a3_5).bind fun bt333 => ((reefref16_Hear.f k a0_0 a0_1 a0_2 l0_3 a0_4 a0_5 l0_6 a3_0 a3_1 a3_2 a3_3 a3_4 a3_5).bind fun bt344 => ((reefref16_Same.f k bt333.1 bt333.2.1 bt333.2.2.1 bt333.2.2.2.1 bt333.2.2.2.2.1 bt333.2.2.2.2.2.1 bt333.2.2.2.2.2.2 bt344.1 bt344.2.1 bt344.2.2.1 bt344.2.2.2.1 bt344.2.2.2.2.1 bt344.2.2.2.2.2.1 bt344.2.2.2.2.2.2).bind fun t355 => (if t355 = true then ((lead_Enough.f bt321.1 bt321.2.1 bt321.2.2.1 bt321.2.2.2.1 bt321.2.2.2.2.1 bt321.2.2.2.2.2.1 bt321.2.2.2.2.2.2 a4).bind fun t356 => ((reefref16_Enough.f a0_0 a0_1 a0_2 l0_3 a0_4 a0_5 l0_6 a4).bind fun t357 => (reeflaw16_LeadHears.j0 k a5 (t356 != t357) a0_0 a0_1 a0_2 l0_3 a0_4 a0_5 l0_6 bt321.1 bt321.2.1 bt321.2.2.1 bt321.2.2.2.1 bt321.2.2.2.2.1 bt321.2.2.2.2.2.1 bt321.2.2.2.2.2.2))) else (none)))))) = some r := by rw [if_pos rfl] at H; exact H
   clear H
   have H := H1
   clear H1
   replace H := Option.bind_eq_some_iff.mp H
   obtain ⟨⟨t321, t322, t323, t324, t327, t328, t329⟩, A130, H⟩ := H
   replace H : ((lead_Hear.f k t321 t322 t323 t324 t327 t328 t329 a3_0 a3_1 a3_2 a3_3 a3_4 a3_5).bind fun bt333 => ((reefref16_Hear.f k a0_0 a0_1 a0_2 l0_3 a0_4 a0_5 l0_6 a3_0 a3_1 a3_2 a3_3 a3_4 a3_5).bind fun bt344 => ((reefref16_Same.f k bt333.1 bt333.2.1 bt333.2.2.1 bt333.2.2.2.1 bt333.2.2.2.2.1 bt333.2.2.2.2.2.1 bt333.2.2.2.2.2.2 bt344.1 bt344.2.1 bt344.2.2.1 bt344.2.2.2.1 bt344.2.2.2.2.1 bt344.2.2.2.2.2.1 bt344.2.2.2.2.2.2).bind fun t355 => (if t355 = true then ((lead_Enough.f t321 t322 t323 t324 t327 t328 t329 a4).bind fun t356 => ((reefref16_Enough.f a0_0 a0_1 a0_2 l0_3 a0_4 a0_5 l0_6 a4).bind fun t357 => (reeflaw16_LeadHears.j0 k a5 (t356 != t357) a0_0 a0_1 a0_2 l0_3 a0_4 a0_5 l0_6 t321 t322 t323 t324 t327 t328 t329))) else (none))))) = some r := H
   have A13 := Aside0.mk A130
   clear A130
   have HC14 := Aside0.mk H
   clear H
   go_enter Try.func5, Try.ntmps5
   try go_wp2_with (first | ((with_reducible refine gate_dst (N := 6) rfl ?_); refine box_event ?hg (N := 6) ?hd (cs := #[.int .i64 a0_0, .int .i64 a0_1, .int .i64 a0_2, .slice A0_3 l0_3.length c0_3, .bool a0_4, .string a0_5, .slice A0_6 l0_6.length c0_6]) (t := 37) ?hr ?_; (case hd => rfl); (case hg => rfl); (case hr => first | (go_simp; done) | (go_simp; rfl)); intro gb292 hg w15 hbox hb; have n0_ := Aside0.mk (below_step (by repeat (first | (with_reducible first | exact HB.out | apply below_alloc | apply pw_below_drewN | apply below_drew1) | exact HB.out)) hb); have n1_ := Aside0.mk (hbox); have n2_ := Aside0.mk ((by rw [hg]; exact (below_size (by repeat (first | (with_reducible first | exact HB.out | apply below_alloc | apply pw_below_drewN | apply below_drew1) | exact HB.out))) : w.heap.size ≤ gb292)); have n3_ := n2_; clear HB; have HB := n0_; have BK292 := n1_; have GW292 := n2_; have GE292 := n3_; clear n0_ n1_ n2_ n3_; clear hb hbox hg) | ((with_reducible refine gate_dst (N := 7) rfl ?_); refine box_event ?hg (N := 7) ?hd (cs := #[.int .i64 a1_0, .int .i64 a1_1]) (t := 23) ?hr ?_; (case hd => rfl); (case hg => rfl); (case hr => first | (go_simp; done) | (go_simp; rfl)); intro gb293 hg w16 hbox hb; have n0_ := Aside0.mk (blk_below (g := gb292) (o := .cells #[.int .i64 a0_0, .int .i64 a0_1, .int .i64 a0_2, .slice A0_3 l0_3.length c0_3, .bool a0_4, .string a0_5, .slice A0_6 l0_6.length c0_6] 37 (0, 0)) (by (with_reducible repeat (first | apply bN | apply bD | apply bA)); exact BK292.out) hb); have n1_ := Aside0.mk (below_step (by repeat (first | (with_reducible first | exact HB.out | apply below_alloc | apply pw_below_drewN | apply below_drew1 | refine below_set ?_ GE292.out) | exact HB.out)) hb); have n2_ := Aside0.mk (hbox); have n3_ := Aside0.mk ((by rw [hg]; exact (below_size (by repeat (first | (with_reducible first | exact HB.out | apply below_alloc | apply pw_below_drewN | apply below_drew1 | refine below_set ?_ GE292.out) | exact HB.out))) : w.heap.size ≤ gb293)); have n4_ := n3_; have n5_ := Aside0.mk ((by rw [hg]; exact Nat.ne_of_lt (blk_lt (g := gb292) (o := .cells #[.int .i64 a0_0, .int .i64 a0_1, .int .i64 a0_2, .slice A0_3 l0_3.length c0_3, .bool a0_4, .string a0_5, .slice A0_6 l0_6.length c0_6] 37 (0, 0)) (by (with_reducible repeat (first | apply bN | apply bD | apply bA)); exact BK292.out)) : gb292 ≠ gb293)); have n6_ := Aside0.mk ((by rw [hg]; exact Nat.ne_of_gt (blk_lt (g := gb292) (o := .cells #[.int .i64 a0_0, .int .i64 a0_1, .int .i64 a0_2, .slice A0_3 l0_3.length c0_3, .bool a0_4, .string a0_5, .slice A0_6 l0_6.length c0_6] 37 (0, 0)) (by (with_reducible repeat (first | apply bN | apply bD | apply bA)); exact BK292.out)) : gb293 ≠ gb292)); clear BK292; clear HB; have BK292 := n0_; have HB := n1_; have BK293 := n2_; have GW293 := n3_; have GE293 := n4_; have NB292_293 := n5_; have NB293_292 := n6_; clear n0_ n1_ n2_ n3_ n4_ n5_ n6_; clear hb hbox hg) | ((with_reducible refine gate_dst (N := 8) rfl ?_); refine box_event ?hg (N := 8) ?hd (cs := #[.int .i64 a2_0, .int .i64 a2_1, .bool a2_2, .int .i64 a2_3, .int .i64 a2_4, .string a2_5]) (t := 39) ?hr ?_; (case hd => rfl); (case hg => rfl); (case hr => first | (go_simp; done) | (go_simp; rfl)); intro gb294 hg w17 hbox hb; have n0_ := Aside0.mk (blk_below (g := gb292) (o := .cells #[.int .i64 a0_0, .int .i64 a0_1, .int .i64 a0_2, .slice A0_3 l0_3.length c0_3, .bool a0_4, .string a0_5, .slice A0_6 l0_6.length c0_6] 37 (0, 0)) (by (with_reducible repeat (first | apply bN | apply bD | apply bA)); exact BK292.out) hb); have n1_ := Aside0.mk (blk_below (g := gb293) (o := .cells #[.int .i64 a1_0, .int .i64 a1_1] 23 (0, 0)) (by (with_reducible repeat (first | apply bN | apply bD | apply bA)); exact BK293.out) hb); have n2_ := Aside0.mk (below_step (by repeat (first | (with_reducible first | exact HB.out | apply below_alloc | apply pw_below_drewN | apply below_drew1 | refine below_set ?_ (Aside0.out ‹_›)) | exact HB.out)) hb); have n3_ := Aside0.mk (hbox); have n4_ := Aside0.mk ((by rw [hg]; exact (below_size (by repeat (first | (with_reducible first | exact HB.out | apply below_alloc | apply pw_below_drewN | apply below_drew1 | refine below_set ?_ (Aside0.out ‹_›)) | exact HB.out))) : w.heap.size ≤ gb294)); have n5_ := n4_; have n6_ := Aside0.mk ((by rw [hg]; exact Nat.ne_of_lt (blk_lt (g := gb292) (o := .cells #[.int .i64 a0_0, .int .i64 a0_1, .int .i64 a0_2, .slice A0_3 l0_3.length c0_3, .bool a0_4, .string a0_5, .slice A0_6 l0_6.length c0_6] 37 (0, 0)) (by (with_reducible repeat (first | apply bN | apply bD | apply bA)); exact BK292.out)) : gb292 ≠ gb294)); have n7_ := Aside0.mk ((by rw [hg]; exact Nat.ne_of_gt (blk_lt (g := gb292) (o := .cells #[.int .i64 a0_0, .int .i64 a0_1, .int .i64 a0_2, .slice A0_3 l0_3.length c0_3, .bool a0_4, .string a0_5, .slice A0_6 l0_6.length c0_6] 37 (0, 0)) (by (with_reducible repeat (first | apply bN | apply bD | apply bA)); exact BK292.out)) : gb294 ≠ gb292)); have n8_ := Aside0.mk ((by rw [hg]; exact Nat.ne_of_lt (blk_lt (g := gb293) (o := .cells #[.int .i64 a1_0, .int .i64 a1_1] 23 (0, 0)) (by (with_reducible repeat (first | apply bN | apply bD | apply bA)); exact BK293.out)) : gb293 ≠ gb294)); have n9_ := Aside0.mk ((by rw [hg]; exact Nat.ne_of_gt (blk_lt (g := gb293) (o := .cells #[.int .i64 a1_0, .int .i64 a1_1] 23 (0, 0)) (by (with_reducible repeat (first | apply bN | apply bD | apply bA)); exact BK293.out)) : gb294 ≠ gb293)); clear BK292; clear BK293; clear HB; have BK292 := n0_; have BK293 := n1_; have HB := n2_; have BK294 := n3_; have GW294 := n4_; have GE294 := n5_; have NB292_294 := n6_; have NB294_292 := n7_; have NB293_294 := n8_; have NB294_293 := n9_; clear n0_ n1_ n2_ n3_ n4_ n5_ n6_ n7_ n8_ n9_; clear hb hbox hg) | ((with_reducible refine gate_dst (N := 9) rfl ?_); refine box_event ?hg (N := 9) ?hd (cs := #[.int .i64 a3_0, .int .i64 a3_1, .bool a3_2, .int .i64 a3_3, .int .i64 a3_4, .string a3_5]) (t := 39) ?hr ?_; (case hd => rfl); (case hg => rfl); (case hr => first | (go_simp; done) | (go_simp; rfl)); intro gb295 hg w18 hbox hb; have n0_ := Aside0.mk (blk_below (g := gb292) (o := .cells #[.int .i64 a0_0, .int .i64 a0_1, .int .i64 a0_2, .slice A0_3 l0_3.length c0_3, .bool a0_4, .string a0_5, .slice A0_6 l0_6.length c0_6] 37 (0, 0)) (by (with_reducible repeat (first | apply bN | apply bD | apply bA)); exact BK292.out) hb); have n1_ := Aside0.mk (blk_below (g := gb293) (o := .cells #[.int .i64 a1_0, .int .i64 a1_1] 23 (0, 0)) (by (with_reducible repeat (first | apply bN | apply bD | apply bA)); exact BK293.out) hb); have n2_ := Aside0.mk (blk_below (g := gb294) (o := .cells #[.int .i64 a2_0, .int .i64 a2_1, .bool a2_2, .int .i64 a2_3, .int .i64 a2_4, .string a2_5] 39 (0, 0)) (by (with_reducible repeat (first | apply bN | apply bD | apply bA)); exact BK294.out) hb); have n3_ := Aside0.mk (below_step (by repeat (first | (with_reducible first | exact HB.out | apply below_alloc | apply pw_below_drewN | apply below_drew1 | refine below_set ?_ (Aside0.out ‹_›)) | exact HB.out)) hb); have n4_ := Aside0.mk (hbox); have n5_ := Aside0.mk ((by rw [hg]; exact (below_size (by repeat (first | (with_reducible first | exact HB.out | apply below_alloc | apply pw_below_drewN | apply below_drew1 | refine below_set ?_ (Aside0.out ‹_›)) | exact HB.out))) : w.heap.size ≤ gb295)); have n6_ := n5_; have n7_ := Aside0.mk ((by rw [hg]; exact Nat.ne_of_lt (blk_lt (g := gb292) (o := .cells #[.int .i64 a0_0, .int .i64 a0_1, .int .i64 a0_2, .slice A0_3 l0_3.length c0_3, .bool a0_4, .string a0_5, .slice A0_6 l0_6.length c0_6] 37 (0, 0)) (by (with_reducible repeat (first | apply bN | apply bD | apply bA)); exact BK292.out)) : gb292 ≠ gb295)); have n8_ := Aside0.mk ((by rw [hg]; exact Nat.ne_of_gt (blk_lt (g := gb292) (o := .cells #[.int .i64 a0_0, .int .i64 a0_1, .int .i64 a0_2, .slice A0_3 l0_3.length c0_3, .bool a0_4, .string a0_5, .slice A0_6 l0_6.length c0_6] 37 (0, 0)) (by (with_reducible repeat (first | apply bN | apply bD | apply bA)); exact BK292.out)) : gb295 ≠ gb292)); have n9_ := Aside0.mk ((by rw [hg]; exact Nat.ne_of_lt (blk_lt (g := gb293) (o := .cells #[.int .i64 a1_0, .int .i64 a1_1] 23 (0, 0)) (by (with_reducible repeat (first | apply bN | apply bD | apply bA)); exact BK293.out)) : gb293 ≠ gb295)); have n10_ := Aside0.mk ((by rw [hg]; exact Nat.ne_of_gt (blk_lt (g := gb293) (o := .cells #[.int .i64 a1_0, .int .i64 a1_1] 23 (0, 0)) (by (with_reducible repeat (first | apply bN | apply bD | apply bA)); exact BK293.out)) : gb295 ≠ gb293)); have n11_ := Aside0.mk ((by rw [hg]; exact Nat.ne_of_lt (blk_lt (g := gb294) (o := .cells #[.int .i64 a2_0, .int .i64 a2_1, .bool a2_2, .int .i64 a2_3, .int .i64 a2_4, .string a2_5] 39 (0, 0)) (by (with_reducible repeat (first | apply bN | apply bD | apply bA)); exact BK294.out)) : gb294 ≠ gb295)); have n12_ := Aside0.mk ((by rw [hg]; exact Nat.ne_of_gt (blk_lt (g := gb294) (o := .cells #[.int .i64 a2_0, .int .i64 a2_1, .bool a2_2, .int .i64 a2_3, .int .i64 a2_4, .string a2_5] 39 (0, 0)) (by (with_reducible repeat (first | apply bN | apply bD | apply bA)); exact BK294.out)) : gb295 ≠ gb294)); clear BK292; clear BK293; clear BK294; clear HB; have BK292 := n0_; have BK293 := n1_; have BK294 := n2_; have HB := n3_; have BK295 := n4_; have GW295 := n5_; have GE295 := n6_; have NB292_295 := n7_; have NB295_292 := n8_; have NB293_295 := n9_; have NB295_293 := n10_; have NB294_295 := n11_; have NB295_294 := n12_; clear n0_ n1_ n2_ n3_ n4_ n5_ n6_ n7_ n8_ n9_ n10_ n11_ n12_; clear hb hbox hg))
   have n0_ := Aside0.mk (blk_drew BK292.out)
   have n1_ := Aside0.mk (blk_drew BK293.out)
   have n2_ := Aside0.mk (blk_drew BK294.out)
   have n3_ := Aside0.mk (blk_drew BK295.out)
   have n4_ := Aside0.mk (below_drew1 HB.out)
   clear BK292
   clear BK293
   clear BK294
   clear BK295
   clear HB
   have BK292 := n0_
   have BK293 := n1_
   have BK294 := n2_
   have BK295 := n3_
   have HB := n4_
   clear n0_ n1_ n2_ n3_ n4_
   refine start_ (n := 8) (S := fun w' => w'.cell? ⟨gb293, 0, none⟩ = some (.int .i64 a1_0) ∧ w'.cell? ⟨gb293, 1, none⟩ = some (.int .i64 a1_1) ∧ w'.cell? ⟨gb294, 0, none⟩ = some (.int .i64 a2_0) ∧ w'.cell? ⟨gb294, 1, none⟩ = some (.int .i64 a2_1) ∧ w'.cell? ⟨gb294, 2, none⟩ = some (.bool a2_2) ∧ w'.cell? ⟨gb294, 3, none⟩ = some (.int .i64 a2_3) ∧ w'.cell? ⟨gb294, 4, none⟩ = some (.int .i64 a2_4) ∧ w'.cell? ⟨gb294, 5, none⟩ = some (.string a2_5)) (ds := []) #[false, false, false, false, false, false, false, false] (by kernel_rfl) rfl rfl ⟨(blk_cell BK293.out 0).trans rfl, (blk_cell BK293.out 1).trans rfl, (blk_cell BK294.out 0).trans rfl, (blk_cell BK294.out 1).trans rfl, (blk_cell BK294.out 2).trans rfl, (blk_cell BK294.out 3).trans rfl, (blk_cell BK294.out 4).trans rfl, (blk_cell BK294.out 5).trans rfl⟩ (fun hHeld => ?_); refine with_tabW reeflaw16_LeadHears.tab1 reeflaw16_LeadHears.bits1 (fun HT_ HW_ => ?_)
   generalize w18.drew = w19 at BK292 BK293 BK294 BK295 HB hHeld ⊢
   refine take_ (i := 0) (N := some 18) (v := ?_) (a' := ?_) #[true, false, false, false, false, false, false, false] rfl rfl (take_ofW HT_.out HW_.out (by kernel_rfl)) (fun _ _ _ h => h) (Or.inl ⟨by rfl, ?_⟩) hHeld ?_ ?_
   rotate_left
   ·rintro w' ⟨s0, s1, s2, s3, s4, s5, s6, s7⟩
    go_simp
    with_reducible rfl
   rotate_left
   ·simp only [Act.put, List.setIfInBounds_toArray, List.set_cons_zero, List.set_cons_succ, i64_w, i32_w]
    rfl
   refine take_ (i := 1) (N := some 19) (v := ?_) (a' := ?_) #[true, true, false, false, false, false, false, false] rfl rfl (take_ofW HT_.out HW_.out (by kernel_rfl)) (fun _ _ _ h => h) (Or.inl ⟨by rfl, ?_⟩) hHeld ?_ ?_
   rotate_left
   ·rintro w' ⟨s0, s1, s2, s3, s4, s5, s6, s7⟩
    go_simp
    with_reducible rfl
   rotate_left
   ·simp only [Act.put, List.setIfInBounds_toArray, List.set_cons_zero, List.set_cons_succ, i64_w, i32_w]
    rfl
   refine take_ (i := 3) (N := some 21) (v := ?_) (a' := ?_) #[true, true, false, true, false, false, false, false] rfl rfl (take_ofW HT_.out HW_.out (by kernel_rfl)) (fun _ _ _ h => h) (Or.inl ⟨by rfl, ?_⟩) hHeld ?_ ?_
   rotate_left
   ·rintro w' ⟨s0, s1, s2, s3, s4, s5, s6, s7⟩
    go_simp
    with_reducible rfl
   rotate_left
   ·simp only [Act.put, List.setIfInBounds_toArray, List.set_cons_zero, List.set_cons_succ, i64_w, i32_w]
    rfl
   refine take_ (i := 4) (N := some 22) (v := ?_) (a' := ?_) #[true, true, false, true, true, false, false, false] rfl rfl (take_ofW HT_.out HW_.out (by kernel_rfl)) (fun _ _ _ h => h) (Or.inl ⟨by rfl, ?_⟩) hHeld ?_ ?_
   rotate_left
   ·rintro w' ⟨s0, s1, s2, s3, s4, s5, s6, s7⟩
    go_simp
    with_reducible rfl
   rotate_left
   ·simp only [Act.put, List.setIfInBounds_toArray, List.set_cons_zero, List.set_cons_succ, i64_w, i32_w]
    rfl
   refine one_ (i := 2) (N := some 20) #[true, true, true, true, true, false, false, false] rfl rfl (one_of HT_.out (by kernel_rfl)) (by decide) (fun K hK => ?_)
   refine goes_ Try.func15 (by kernel_rfl) rfl #[.agg #[.int .i64 a1_0, .int .i64 a1_1], .agg #[.int .i64 a2_0, .int .i64 a2_1, .bool a2_2, .int .i64 a2_3, .int .i64 a2_4, .string a2_5]] (by rfl) rfl rfl (by (try simp only [List.map_toArray, List.map_cons, List.map_nil]); first | done | rfl | (simp only [List.length_drop, List.length_take]; rfl)) ?_
   with_reducible refine (lead_Begin.calls a1_0 a1_1 a2_0 a2_1 a2_2 a2_3 a2_4 a2_5 t296 t297 t298 t299 t302 t303 t304 _ A7.out).mono ?_
   rintro e w20 ⟨v300, v305, rfl, ho0, ho1, hb⟩
   refine ⟨_, rfl, ?_⟩
   have n0_ := Aside0.mk (Kd.R_lower (Kd.R_newB (Kd.R_newB ho0 (g := gb294) (o := .cells #[.int .i64 a2_0, .int .i64 a2_1, .bool a2_2, .int .i64 a2_3, .int .i64 a2_4, .string a2_5] 39 (0, 0)) (by (with_reducible repeat (first | apply bN | apply bD | apply bA)); exact BK294.out)) (g := gb295) (o := .cells #[.int .i64 a3_0, .int .i64 a3_1, .bool a3_2, .int .i64 a3_3, .int .i64 a3_4, .string a3_5] 39 (0, 0)) (by (with_reducible repeat (first | apply bN | apply bD | apply bA)); exact BK295.out)) (below_size (by repeat (first | (with_reducible first | exact HB.out | apply below_alloc | apply pw_below_drewN | apply below_drew1 | refine below_set ?_ (Aside0.out ‹_›)) | exact HB.out))))
   have n1_ := Aside0.mk (Kd.R_lower ho1 (below_size (by repeat (first | (with_reducible first | exact HB.out | apply below_alloc | apply pw_below_drewN | apply below_drew1 | refine below_set ?_ (Aside0.out ‹_›)) | exact HB.out))))
   have n2_ := Aside0.mk (blk_below (g := gb292) (o := .cells #[.int .i64 a0_0, .int .i64 a0_1, .int .i64 a0_2, .slice A0_3 l0_3.length c0_3, .bool a0_4, .string a0_5, .slice A0_6 l0_6.length c0_6] 37 (0, 0)) (by (with_reducible repeat (first | apply bN | apply bD | apply bA)); exact BK292.out) hb)
   have n3_ := Aside0.mk (blk_below (g := gb293) (o := .cells #[.int .i64 a1_0, .int .i64 a1_1] 23 (0, 0)) (by (with_reducible repeat (first | apply bN | apply bD | apply bA)); exact BK293.out) hb)
   have n4_ := Aside0.mk (blk_below (g := gb294) (o := .cells #[.int .i64 a2_0, .int .i64 a2_1, .bool a2_2, .int .i64 a2_3, .int .i64 a2_4, .string a2_5] 39 (0, 0)) (by (with_reducible repeat (first | apply bN | apply bD | apply bA)); exact BK294.out) hb)
   have n5_ := Aside0.mk (blk_below (g := gb295) (o := .cells #[.int .i64 a3_0, .int .i64 a3_1, .bool a3_2, .int .i64 a3_3, .int .i64 a3_4, .string a3_5] 39 (0, 0)) (by (with_reducible repeat (first | apply bN | apply bD | apply bA)); exact BK295.out) hb)
   have n6_ := Aside0.mk (below_step (by repeat (first | (with_reducible first | exact HB.out | apply below_alloc | apply pw_below_drewN | apply below_drew1 | refine below_set ?_ (Aside0.out ‹_›)) | exact HB.out)) hb)
   clear BK292
   clear BK293
   clear BK294
   clear BK295
   clear HB
   have HO301 := n0_
   have HO306 := n1_
   have BK292 := n2_
   have BK293 := n3_
   have BK294 := n4_
   have BK295 := n5_
   have HB := n6_
   clear n0_ n1_ n2_ n3_ n4_ n5_ n6_
   (try clear hb)
   (try clear hb2)
   (try clear hk)
   (try clear hi)
   (try clear ho0)
   (try clear ho1)
   refine hK.out _ _ ⟨(blk_cell BK293.out 0).trans rfl, (blk_cell BK293.out 1).trans rfl, (blk_cell BK294.out 0).trans rfl, (blk_cell BK294.out 1).trans rfl, (blk_cell BK294.out 2).trans rfl, (blk_cell BK294.out 3).trans rfl, (blk_cell BK294.out 4).trans rfl, (blk_cell BK294.out 5).trans rfl⟩ (fun hHeld => ?_)
   clear hK K
   refine norm_ (a' := ?_) ?_ ?_
   rotate_left
   ·show Act.put _ (some 20) _ = _
    simp only [Act.put, List.setIfInBounds_toArray, List.set_cons_zero, List.set_cons_succ, i64_w, i32_w]
    rfl
   refine one_ (i := 5) (N := some 23) #[true, true, true, true, true, true, false, false] rfl rfl (one_of HT_.out (by kernel_rfl)) (by decide) (fun K hK => ?_)
   refine goes_ Try.func16 (by kernel_rfl) rfl #[.agg #[.int .i64 a1_0, .int .i64 a1_1], .agg #[.int .i64 a2_0, .int .i64 a2_1, .bool a2_2, .int .i64 a2_3, .int .i64 a2_4, .string a2_5]] (by rfl) rfl rfl (by (try simp only [List.map_toArray, List.map_cons, List.map_nil]); first | done | rfl | (simp only [List.length_drop, List.length_take]; rfl)) ?_
   with_reducible refine (reefref16_Begin.calls a1_0 a1_1 a2_0 a2_1 a2_2 a2_3 a2_4 a2_5 t307 t308 t309 t310 t313 t314 t315 _ A8.out).mono ?_
   rintro e w21 ⟨v311, v316, rfl, ho0, ho1, hb⟩
   refine ⟨_, rfl, ?_⟩
   have n0_ := Aside0.mk (Kd.R_elder' (by (with_reducible repeat (first | apply Kd.R_alloc | apply Kd.R_drewN | apply Kd.R_drew)); exact HO301.out) (Kd.R_base ho0) hb)
   have n1_ := Aside0.mk (Kd.R_elder' (by (with_reducible repeat (first | apply Kd.R_alloc | apply Kd.R_drewN | apply Kd.R_drew)); exact HO306.out) (Kd.R_base ho1) hb)
   have n2_ := Aside0.mk (Kd.R_lower (Kd.R_newB (Kd.R_newB (Kd.R_new' ho0 (Kd.R_lt (by (with_reducible repeat (first | apply Kd.R_alloc | apply Kd.R_drewN | apply Kd.R_drew)); exact HO301.out))) (g := gb294) (o := .cells #[.int .i64 a2_0, .int .i64 a2_1, .bool a2_2, .int .i64 a2_3, .int .i64 a2_4, .string a2_5] 39 (0, 0)) (by (with_reducible repeat (first | apply bN | apply bD | apply bA)); exact BK294.out)) (g := gb295) (o := .cells #[.int .i64 a3_0, .int .i64 a3_1, .bool a3_2, .int .i64 a3_3, .int .i64 a3_4, .string a3_5] 39 (0, 0)) (by (with_reducible repeat (first | apply bN | apply bD | apply bA)); exact BK295.out)) (below_size (by repeat (first | (with_reducible first | exact HB.out | apply below_alloc | apply pw_below_drewN | apply below_drew1 | refine below_set ?_ (Aside0.out ‹_›)) | exact HB.out))))
   have n3_ := Aside0.mk (Kd.R_lower (Kd.R_new' ho1 (Kd.R_lt (by (with_reducible repeat (first | apply Kd.R_alloc | apply Kd.R_drewN | apply Kd.R_drew)); exact HO306.out))) (below_size (by repeat (first | (with_reducible first | exact HB.out | apply below_alloc | apply pw_below_drewN | apply below_drew1 | refine below_set ?_ (Aside0.out ‹_›)) | exact HB.out))))
   have n4_ := Aside0.mk (blk_below (g := gb292) (o := .cells #[.int .i64 a0_0, .int .i64 a0_1, .int .i64 a0_2, .slice A0_3 l0_3.length c0_3, .bool a0_4, .string a0_5, .slice A0_6 l0_6.length c0_6] 37 (0, 0)) (by (with_reducible repeat (first | apply bN | apply bD | apply bA)); exact BK292.out) hb)
   have n5_ := Aside0.mk (blk_below (g := gb293) (o := .cells #[.int .i64 a1_0, .int .i64 a1_1] 23 (0, 0)) (by (with_reducible repeat (first | apply bN | apply bD | apply bA)); exact BK293.out) hb)
   have n6_ := Aside0.mk (blk_below (g := gb294) (o := .cells #[.int .i64 a2_0, .int .i64 a2_1, .bool a2_2, .int .i64 a2_3, .int .i64 a2_4, .string a2_5] 39 (0, 0)) (by (with_reducible repeat (first | apply bN | apply bD | apply bA)); exact BK294.out) hb)
   have n7_ := Aside0.mk (blk_below (g := gb295) (o := .cells #[.int .i64 a3_0, .int .i64 a3_1, .bool a3_2, .int .i64 a3_3, .int .i64 a3_4, .string a3_5] 39 (0, 0)) (by (with_reducible repeat (first | apply bN | apply bD | apply bA)); exact BK295.out) hb)
   have n8_ := Aside0.mk (below_step (by repeat (first | (with_reducible first | exact HB.out | apply below_alloc | apply pw_below_drewN | apply below_drew1 | refine below_set ?_ (Aside0.out ‹_›)) | exact HB.out)) hb)
   clear HO301
   clear HO306
   clear BK292
   clear BK293
   clear BK294
   clear BK295
   clear HB
   have HO301 := n0_
   have HO306 := n1_
   have HO312 := n2_
   have HO317 := n3_
   have BK292 := n4_
   have BK293 := n5_
   have BK294 := n6_
   have BK295 := n7_
   have HB := n8_
   clear n0_ n1_ n2_ n3_ n4_ n5_ n6_ n7_ n8_
   (try clear hb)
   (try clear hb2)
   (try clear hk)
   (try clear hi)
   (try clear ho0)
   (try clear ho1)
   obtain ⟨Ao22, co22, eo22⟩ := Kd.R_slice HO301.out
   (first | subst eo22 | (injection eo22 with f1_ f2_ f3_; have f4_ := f1_.symm; have f5_ := f3_.symm; clear f1_ f2_ f3_; subst f4_; subst f5_))
   obtain ⟨Ao23, co23, eo23⟩ := Kd.R_slice HO306.out
   (first | subst eo23 | (injection eo23 with f1_ f2_ f3_; have f4_ := f1_.symm; have f5_ := f3_.symm; clear f1_ f2_ f3_; subst f4_; subst f5_))
   obtain ⟨Ao24, co24, eo24⟩ := Kd.R_slice HO312.out
   (first | subst eo24 | (injection eo24 with f1_ f2_ f3_; have f4_ := f1_.symm; have f5_ := f3_.symm; clear f1_ f2_ f3_; subst f4_; subst f5_))
   obtain ⟨Ao25, co25, eo25⟩ := Kd.R_slice HO317.out
   (first | subst eo25 | (injection eo25 with f1_ f2_ f3_; have f4_ := f1_.symm; have f5_ := f3_.symm; clear f1_ f2_ f3_; subst f4_; subst f5_))
   refine hK.out _ _ ⟨(blk_cell BK293.out 0).trans rfl, (blk_cell BK293.out 1).trans rfl, (blk_cell BK294.out 0).trans rfl, (blk_cell BK294.out 1).trans rfl, (blk_cell BK294.out 2).trans rfl, (blk_cell BK294.out 3).trans rfl, (blk_cell BK294.out 4).trans rfl, (blk_cell BK294.out 5).trans rfl⟩ (fun hHeld => ?_)
   clear hK K
   refine norm_ (a' := ?_) ?_ ?_
   rotate_left
   ·show Act.put _ (some 23) _ = _
    simp only [Act.put, List.setIfInBounds_toArray, List.set_cons_zero, List.set_cons_succ, i64_w, i32_w]
    rfl
   refine one_ (i := 6) (N := some 24) #[true, true, true, true, true, true, true, false] rfl rfl (one_of HT_.out (by kernel_rfl)) (by decide) (fun K hK => ?_)
   refine goes_ Try.func14 (by kernel_rfl) rfl #[.agg #[.int .i64 t296, .int .i64 t297, .int .i64 t298, .slice Ao22 t299.length co22, .bool t302, .string t303, .slice Ao23 t304.length co23], .agg #[.int .i64 t307, .int .i64 t308, .int .i64 t309, .slice Ao24 t310.length co24, .bool t313, .string t314, .slice Ao25 t315.length co25]] (by rfl) rfl rfl (by (try simp only [List.map_toArray, List.map_cons, List.map_nil]); first | done | rfl | (simp only [List.length_drop, List.length_take]; rfl)) ?_
   with_reducible refine (lead_Same.calls k t296 t297 t298 _ _ t299 t302 t303 _ _ t304 t307 t308 t309 _ _ t310 t313 t314 _ _ t315 true _ ?side1 ?side2 ?side3 ?side4 ?side5 ?side6 ?side7 ?side8 A9.out).mono ?_
   (case side1 => repeat (first | exact (Kd.R_reads' HO301.out).2.2 | (with_reducible refine Kd.C_alloc ?_ _) | (with_reducible refine Kd.C_drewN ?_ _) | (with_reducible refine Kd.C_drew ?_)))
   (case side2 => exact (Kd.R_reads' HO301.out).2.1)
   (case side3 => repeat (first | exact (Kd.R_reads' HO306.out).2.2 | (with_reducible refine Kd.C_alloc ?_ _) | (with_reducible refine Kd.C_drewN ?_ _) | (with_reducible refine Kd.C_drew ?_)))
   (case side4 => exact (Kd.R_reads' HO306.out).2.1)
   (case side5 => repeat (first | exact (Kd.R_reads' HO312.out).2.2 | (with_reducible refine Kd.C_alloc ?_ _) | (with_reducible refine Kd.C_drewN ?_ _) | (with_reducible refine Kd.C_drew ?_)))
   (case side6 => exact (Kd.R_reads' HO312.out).2.1)
   (case side7 => repeat (first | exact (Kd.R_reads' HO317.out).2.2 | (with_reducible refine Kd.C_alloc ?_ _) | (with_reducible refine Kd.C_drewN ?_ _) | (with_reducible refine Kd.C_drew ?_)))
   (case side8 => exact (Kd.R_reads' HO317.out).2.1)
   rintro e w26 ⟨rfl, hb⟩
   refine ⟨_, rfl, ?_⟩
   have n0_ := Aside0.mk (Kd.R_below (by (with_reducible repeat (first | apply Kd.R_alloc | apply Kd.R_drewN | apply Kd.R_drew)); exact HO301.out) hb)
   have n1_ := Aside0.mk (Kd.R_below (by (with_reducible repeat (first | apply Kd.R_alloc | apply Kd.R_drewN | apply Kd.R_drew)); exact HO306.out) hb)
   have n2_ := Aside0.mk (Kd.R_below (by (with_reducible repeat (first | apply Kd.R_alloc | apply Kd.R_drewN | apply Kd.R_drew)); exact HO312.out) hb)
   have n3_ := Aside0.mk (Kd.R_below (by (with_reducible repeat (first | apply Kd.R_alloc | apply Kd.R_drewN | apply Kd.R_drew)); exact HO317.out) hb)
   have n4_ := Aside0.mk (blk_below (g := gb292) (o := .cells #[.int .i64 a0_0, .int .i64 a0_1, .int .i64 a0_2, .slice A0_3 l0_3.length c0_3, .bool a0_4, .string a0_5, .slice A0_6 l0_6.length c0_6] 37 (0, 0)) (by (with_reducible repeat (first | apply bN | apply bD | apply bA)); exact BK292.out) hb)
   have n5_ := Aside0.mk (blk_below (g := gb293) (o := .cells #[.int .i64 a1_0, .int .i64 a1_1] 23 (0, 0)) (by (with_reducible repeat (first | apply bN | apply bD | apply bA)); exact BK293.out) hb)
   have n6_ := Aside0.mk (blk_below (g := gb294) (o := .cells #[.int .i64 a2_0, .int .i64 a2_1, .bool a2_2, .int .i64 a2_3, .int .i64 a2_4, .string a2_5] 39 (0, 0)) (by (with_reducible repeat (first | apply bN | apply bD | apply bA)); exact BK294.out) hb)
   have n7_ := Aside0.mk (blk_below (g := gb295) (o := .cells #[.int .i64 a3_0, .int .i64 a3_1, .bool a3_2, .int .i64 a3_3, .int .i64 a3_4, .string a3_5] 39 (0, 0)) (by (with_reducible repeat (first | apply bN | apply bD | apply bA)); exact BK295.out) hb)
   have n8_ := Aside0.mk (below_step (by repeat (first | (with_reducible first | exact HB.out | apply below_alloc | apply pw_below_drewN | apply below_drew1 | refine below_set ?_ (Aside0.out ‹_›)) | exact HB.out)) hb)
   clear HO301
   clear HO306
   clear HO312
   clear HO317
   clear BK292
   clear BK293
   clear BK294
   clear BK295
   clear HB
   have HO301 := n0_
   have HO306 := n1_
   have HO312 := n2_
   have HO317 := n3_
   have BK292 := n4_
   have BK293 := n5_
   have BK294 := n6_
   have BK295 := n7_
   have HB := n8_
   clear n0_ n1_ n2_ n3_ n4_ n5_ n6_ n7_ n8_
   (try clear hb)
   (try clear hb2)
   (try clear hk)
   (try clear hi)
   refine hK.out _ _ ⟨(blk_cell BK293.out 0).trans rfl, (blk_cell BK293.out 1).trans rfl, (blk_cell BK294.out 0).trans rfl, (blk_cell BK294.out 1).trans rfl, (blk_cell BK294.out 2).trans rfl, (blk_cell BK294.out 3).trans rfl, (blk_cell BK294.out 4).trans rfl, (blk_cell BK294.out 5).trans rfl⟩ (fun hHeld => ?_)
   clear hK K
   refine norm_ (a' := ?_) ?_ ?_
   rotate_left
   ·show Act.put _ (some 24) _ = _
    simp only [Act.put, List.setIfInBounds_toArray, List.set_cons_zero, List.set_cons_succ, i64_w, i32_w]
    rfl
   refine pure_ (i := 7) (N := some 25) (v := ?_) (a' := ?_) #[true, true, true, true, true, true, true, true] rfl rfl (any_of HT_.out (by kernel_rfl)) (fun _ _ _ h => h) (Or.inl ⟨by rfl, ?_⟩) ?_ ?_
   rotate_left
   ·intro w'
    go_simp
    with_reducible rfl
   rotate_left
   ·simp only [Act.put, List.setIfInBounds_toArray, List.set_cons_zero, List.set_cons_succ, i64_w, i32_w]
    rfl
   refine done_ (done_of HT_.out (by kernel_rfl)) ?_
   have hnb27 := NB292_293.out
   have hnc27 := NB293_292.out
   have hnb28 := NB292_294.out
   have hnc28 := NB294_292.out
   have hnb29 := NB292_295.out
   have hnc29 := NB295_292.out
   obtain ⟨hcz30_0, hcz30_1, hcz30_2, hcz30_3, hcz30_4, hcz30_5, hcz30_6⟩ := blkC7 w26 gb292 (.int .i64 a0_0) (.int .i64 a0_1) (.int .i64 a0_2) (.slice A0_3 l0_3.length c0_3) (.bool a0_4) (.string a0_5) (.slice A0_6 l0_6.length c0_6) BK292.out
   obtain ⟨hfz30_0, hfz30_1, hfz30_2, hfz30_3, hfz30_4, hfz30_5, hfz30_6⟩ := blkF7 BK292.out
   go_upto_region 6 with (first | ((with_reducible refine gate_callee (f := 17) rfl ?_); refine goesL_ (some 27) rfl rfl Try.func17 (by kernel_rfl) rfl #[.agg #[.int .i64 a0_0, .int .i64 a0_1, .int .i64 a0_2, .slice A0_3 l0_3.length c0_3, .bool a0_4, .string a0_5, .slice A0_6 l0_6.length c0_6]] rfl (by (try simp only [List.map_toArray, List.map_cons, List.map_nil]); first | done | rfl | (simp only [List.length_drop, List.length_take]; rfl)) ?_; (with_reducible refine (reefref16_Rises.calls k a0_0 a0_1 a0_2 _ _ l0_3 a0_4 a0_5 _ _ l0_6 true _ ?side1 ?side2 ?side3 ?side4 A11.out).mono ?_); (case side1 => repeat (first | exact (Kd.C_below HR0_3.out HB.out) | (with_reducible refine Kd.C_alloc ?_ _) | (with_reducible refine Kd.C_drewN ?_ _) | (with_reducible refine Kd.C_drew ?_))); (case side2 => exact HC0_3.out); (case side3 => repeat (first | exact (Kd.C_below HR0_6.out HB.out) | (with_reducible refine Kd.C_alloc ?_ _) | (with_reducible refine Kd.C_drewN ?_ _) | (with_reducible refine Kd.C_drew ?_))); (case side4 => exact HC0_6.out); rintro e w31 ⟨rfl, hb⟩; refine ⟨_, rfl, ?_⟩; have n0_ := Aside0.mk (Kd.R_below (by (with_reducible repeat (first | apply Kd.R_alloc | apply Kd.R_drewN | apply Kd.R_drew)); exact HO301.out) hb); have n1_ := Aside0.mk (Kd.R_below (by (with_reducible repeat (first | apply Kd.R_alloc | apply Kd.R_drewN | apply Kd.R_drew)); exact HO306.out) hb); have n2_ := Aside0.mk (Kd.R_below (by (with_reducible repeat (first | apply Kd.R_alloc | apply Kd.R_drewN | apply Kd.R_drew)); exact HO312.out) hb); have n3_ := Aside0.mk (Kd.R_below (by (with_reducible repeat (first | apply Kd.R_alloc | apply Kd.R_drewN | apply Kd.R_drew)); exact HO317.out) hb); have n4_ := Aside0.mk (blk_below (g := gb292) (o := .cells #[.int .i64 a0_0, .int .i64 a0_1, .int .i64 a0_2, .slice A0_3 l0_3.length c0_3, .bool a0_4, .string a0_5, .slice A0_6 l0_6.length c0_6] 37 (0, 0)) (by (with_reducible repeat (first | apply bN | apply bD | apply bA)); exact BK292.out) hb); have n5_ := Aside0.mk (blk_below (g := gb293) (o := .cells #[.int .i64 a1_0, .int .i64 a1_1] 23 (0, 0)) (by (with_reducible repeat (first | apply bN | apply bD | apply bA)); exact BK293.out) hb); have n6_ := Aside0.mk (blk_below (g := gb294) (o := .cells #[.int .i64 a2_0, .int .i64 a2_1, .bool a2_2, .int .i64 a2_3, .int .i64 a2_4, .string a2_5] 39 (0, 0)) (by (with_reducible repeat (first | apply bN | apply bD | apply bA)); exact BK294.out) hb); have n7_ := Aside0.mk (blk_below (g := gb295) (o := .cells #[.int .i64 a3_0, .int .i64 a3_1, .bool a3_2, .int .i64 a3_3, .int .i64 a3_4, .string a3_5] 39 (0, 0)) (by (with_reducible repeat (first | apply bN | apply bD | apply bA)); exact BK295.out) hb); have n8_ := Aside0.mk (below_step (by repeat (first | (with_reducible first | exact HB.out | apply below_alloc | apply pw_below_drewN | apply below_drew1 | refine below_set ?_ (Aside0.out ‹_›)) | exact HB.out)) hb); clear HO301; clear HO306; clear HO312; clear HO317; clear BK292; clear BK293; clear BK294; clear BK295; clear HB; have HO301 := n0_; have HO306 := n1_; have HO312 := n2_; have HO317 := n3_; have BK292 := n4_; have BK293 := n5_; have BK294 := n6_; have BK295 := n7_; have HB := n8_; clear n0_ n1_ n2_ n3_ n4_ n5_ n6_ n7_ n8_; (try clear hb); (try clear hb2); (try clear hk); (try clear hi); obtain ⟨hcz32_0, hcz32_1, hcz32_2, hcz32_3, hcz32_4, hcz32_5, hcz32_6⟩ := blkC7 w31 gb292 (.int .i64 a0_0) (.int .i64 a0_1) (.int .i64 a0_2) (.slice A0_3 l0_3.length c0_3) (.bool a0_4) (.string a0_5) (.slice A0_6 l0_6.length c0_6) BK292.out; obtain ⟨hfz32_0, hfz32_1, hfz32_2, hfz32_3, hfz32_4, hfz32_5, hfz32_6⟩ := blkF7 BK292.out) | ((with_reducible refine gate_callee (f := 18) rfl ?_); refine goesL_ (some 31) rfl rfl Try.func18 (by kernel_rfl) rfl #[.agg #[.int .i64 a0_0, .int .i64 a0_1, .int .i64 a0_2, .slice A0_3 l0_3.length c0_3, .bool a0_4, .string a0_5, .slice A0_6 l0_6.length c0_6]] rfl (by (try simp only [List.map_toArray, List.map_cons, List.map_nil]); first | done | rfl | (simp only [List.length_drop, List.length_take]; rfl)) ?_; (with_reducible refine (reefref16_Copy.calls a0_0 a0_1 a0_2 _ _ l0_3 a0_4 a0_5 _ _ l0_6 t321 t322 t323 t324 t327 t328 t329 _ ?side1 ?side2 ?side3 ?side4 A13.out).mono ?_); (case side1 => repeat (first | exact (Kd.C_below HR0_3.out HB.out) | (with_reducible refine Kd.C_alloc ?_ _) | (with_reducible refine Kd.C_drewN ?_ _) | (with_reducible refine Kd.C_drew ?_))); (case side2 => exact HC0_3.out); (case side3 => repeat (first | exact (Kd.C_below HR0_6.out HB.out) | (with_reducible refine Kd.C_alloc ?_ _) | (with_reducible refine Kd.C_drewN ?_ _) | (with_reducible refine Kd.C_drew ?_))); (case side4 => exact HC0_6.out); rintro e w33 ⟨v325, v330, rfl, ho0, ho1, hb⟩; refine ⟨_, rfl, ?_⟩; have n0_ := Aside0.mk (Kd.R_elder' (by (with_reducible repeat (first | apply Kd.R_alloc | apply Kd.R_drewN | apply Kd.R_drew)); exact HO301.out) (Kd.R_base ho0) hb); have n1_ := Aside0.mk (Kd.R_elder' (by (with_reducible repeat (first | apply Kd.R_alloc | apply Kd.R_drewN | apply Kd.R_drew)); exact HO306.out) (Kd.R_base ho1) hb); have n2_ := Aside0.mk (Kd.R_elder' (by (with_reducible repeat (first | apply Kd.R_alloc | apply Kd.R_drewN | apply Kd.R_drew)); exact HO312.out) (Kd.R_base ho0) hb); have n3_ := Aside0.mk (Kd.R_elder' (by (with_reducible repeat (first | apply Kd.R_alloc | apply Kd.R_drewN | apply Kd.R_drew)); exact HO317.out) (Kd.R_base ho1) hb); have n4_ := Aside0.mk (Kd.R_lower (Kd.R_newB (Kd.R_newB (Kd.R_new' (Kd.R_new' ho0 (Kd.R_lt (by (with_reducible repeat (first | apply Kd.R_alloc | apply Kd.R_drewN | apply Kd.R_drew)); exact HO301.out))) (Kd.R_lt (by (with_reducible repeat (first | apply Kd.R_alloc | apply Kd.R_drewN | apply Kd.R_drew)); exact HO312.out))) (g := gb294) (o := .cells #[.int .i64 a2_0, .int .i64 a2_1, .bool a2_2, .int .i64 a2_3, .int .i64 a2_4, .string a2_5] 39 (0, 0)) (by (with_reducible repeat (first | apply bN | apply bD | apply bA)); exact BK294.out)) (g := gb295) (o := .cells #[.int .i64 a3_0, .int .i64 a3_1, .bool a3_2, .int .i64 a3_3, .int .i64 a3_4, .string a3_5] 39 (0, 0)) (by (with_reducible repeat (first | apply bN | apply bD | apply bA)); exact BK295.out)) (below_size (by repeat (first | (with_reducible first | exact HB.out | apply below_alloc | apply pw_below_drewN | apply below_drew1 | refine below_set ?_ (Aside0.out ‹_›)) | exact HB.out)))); have n5_ := Aside0.mk (Kd.R_lower (Kd.R_new' (Kd.R_new' ho1 (Kd.R_lt (by (with_reducible repeat (first | apply Kd.R_alloc | apply Kd.R_drewN | apply Kd.R_drew)); exact HO306.out))) (Kd.R_lt (by (with_reducible repeat (first | apply Kd.R_alloc | apply Kd.R_drewN | apply Kd.R_drew)); exact HO317.out))) (below_size (by repeat (first | (with_reducible first | exact HB.out | apply below_alloc | apply pw_below_drewN | apply below_drew1 | refine below_set ?_ (Aside0.out ‹_›)) | exact HB.out)))); have n6_ := Aside0.mk (blk_below (g := gb292) (o := .cells #[.int .i64 a0_0, .int .i64 a0_1, .int .i64 a0_2, .slice A0_3 l0_3.length c0_3, .bool a0_4, .string a0_5, .slice A0_6 l0_6.length c0_6] 37 (0, 0)) (by (with_reducible repeat (first | apply bN | apply bD | apply bA)); exact BK292.out) hb); have n7_ := Aside0.mk (blk_below (g := gb293) (o := .cells #[.int .i64 a1_0, .int .i64 a1_1] 23 (0, 0)) (by (with_reducible repeat (first | apply bN | apply bD | apply bA)); exact BK293.out) hb); have n8_ := Aside0.mk (blk_below (g := gb294) (o := .cells #[.int .i64 a2_0, .int .i64 a2_1, .bool a2_2, .int .i64 a2_3, .int .i64 a2_4, .string a2_5] 39 (0, 0)) (by (with_reducible repeat (first | apply bN | apply bD | apply bA)); exact BK294.out) hb); have n9_ := Aside0.mk (blk_below (g := gb295) (o := .cells #[.int .i64 a3_0, .int .i64 a3_1, .bool a3_2, .int .i64 a3_3, .int .i64 a3_4, .string a3_5] 39 (0, 0)) (by (with_reducible repeat (first | apply bN | apply bD | apply bA)); exact BK295.out) hb); have n10_ := Aside0.mk (below_step (by repeat (first | (with_reducible first | exact HB.out | apply below_alloc | apply pw_below_drewN | apply below_drew1 | refine below_set ?_ (Aside0.out ‹_›)) | exact HB.out)) hb); clear HO301; clear HO306; clear HO312; clear HO317; clear BK292; clear BK293; clear BK294; clear BK295; clear HB; have HO301 := n0_; have HO306 := n1_; have HO312 := n2_; have HO317 := n3_; have HO326 := n4_; have HO331 := n5_; have BK292 := n6_; have BK293 := n7_; have BK294 := n8_; have BK295 := n9_; have HB := n10_; clear n0_ n1_ n2_ n3_ n4_ n5_ n6_ n7_ n8_ n9_ n10_; (try clear hb); (try clear hb2); (try clear hk); (try clear hi); (try clear ho0); (try clear ho1)) | ((with_reducible refine gate_dst (N := 13) rfl ?_); refine box_event ?hg (N := 13) ?hd (cs := #[.int .i64 0, .int .i64 0, .int .i64 0, .slice none 0 0, .bool false, .string (⟨#[]⟩ : ByteArray), .slice none 0 0]) (t := 37) ?hr ?_; (case hd => rfl); (case hg => rfl); (case hr => first | (go_simp; done) | (go_simp; rfl)); intro gb332 hg w34 hbox hb; have n0_ := Aside0.mk (Kd.R_below (by (with_reducible repeat (first | apply Kd.R_alloc | apply Kd.R_drewN | apply Kd.R_drew)); exact HO301.out) hb); have n1_ := Aside0.mk (Kd.R_below (by (with_reducible repeat (first | apply Kd.R_alloc | apply Kd.R_drewN | apply Kd.R_drew)); exact HO306.out) hb); have n2_ := Aside0.mk (Kd.R_below (by (with_reducible repeat (first | apply Kd.R_alloc | apply Kd.R_drewN | apply Kd.R_drew)); exact HO312.out) hb); have n3_ := Aside0.mk (Kd.R_below (by (with_reducible repeat (first | apply Kd.R_alloc | apply Kd.R_drewN | apply Kd.R_drew)); exact HO317.out) hb); have n4_ := Aside0.mk (Kd.R_below (by (with_reducible repeat (first | apply Kd.R_alloc | apply Kd.R_drewN | apply Kd.R_drew)); exact HO326.out) hb); have n5_ := Aside0.mk (Kd.R_below (by (with_reducible repeat (first | apply Kd.R_alloc | apply Kd.R_drewN | apply Kd.R_drew)); exact HO331.out) hb); have n6_ := Aside0.mk (blk_below (g := gb292) (o := .cells #[.int .i64 a0_0, .int .i64 a0_1, .int .i64 a0_2, .slice A0_3 l0_3.length c0_3, .bool a0_4, .string a0_5, .slice A0_6 l0_6.length c0_6] 37 (0, 0)) (by (with_reducible repeat (first | apply bN | apply bD | apply bA)); exact BK292.out) hb); have n7_ := Aside0.mk (blk_below (g := gb293) (o := .cells #[.int .i64 a1_0, .int .i64 a1_1] 23 (0, 0)) (by (with_reducible repeat (first | apply bN | apply bD | apply bA)); exact BK293.out) hb); have n8_ := Aside0.mk (blk_below (g := gb294) (o := .cells #[.int .i64 a2_0, .int .i64 a2_1, .bool a2_2, .int .i64 a2_3, .int .i64 a2_4, .string a2_5] 39 (0, 0)) (by (with_reducible repeat (first | apply bN | apply bD | apply bA)); exact BK294.out) hb); have n9_ := Aside0.mk (blk_below (g := gb295) (o := .cells #[.int .i64 a3_0, .int .i64 a3_1, .bool a3_2, .int .i64 a3_3, .int .i64 a3_4, .string a3_5] 39 (0, 0)) (by (with_reducible repeat (first | apply bN | apply bD | apply bA)); exact BK295.out) hb); have n10_ := Aside0.mk (below_step (by repeat (first | (with_reducible first | exact HB.out | apply below_alloc | apply pw_below_drewN | apply below_drew1 | refine below_set ?_ (Aside0.out ‹_›)) | exact HB.out)) hb); have n11_ := Aside0.mk (hbox); have n12_ := Aside0.mk ((by rw [hg]; exact (below_size (by repeat (first | (with_reducible first | exact HB.out | apply below_alloc | apply pw_below_drewN | apply below_drew1 | refine below_set ?_ (Aside0.out ‹_›)) | exact HB.out))) : w.heap.size ≤ gb332)); have n13_ := n12_; have n14_ := Aside0.mk ((by rw [hg]; exact Nat.ne_of_lt (blk_lt (g := gb292) (o := .cells #[.int .i64 a0_0, .int .i64 a0_1, .int .i64 a0_2, .slice A0_3 l0_3.length c0_3, .bool a0_4, .string a0_5, .slice A0_6 l0_6.length c0_6] 37 (0, 0)) (by (with_reducible repeat (first | apply bN | apply bD | apply bA)); exact BK292.out)) : gb292 ≠ gb332)); have n15_ := Aside0.mk ((by rw [hg]; exact Nat.ne_of_gt (blk_lt (g := gb292) (o := .cells #[.int .i64 a0_0, .int .i64 a0_1, .int .i64 a0_2, .slice A0_3 l0_3.length c0_3, .bool a0_4, .string a0_5, .slice A0_6 l0_6.length c0_6] 37 (0, 0)) (by (with_reducible repeat (first | apply bN | apply bD | apply bA)); exact BK292.out)) : gb332 ≠ gb292)); have n16_ := Aside0.mk ((by rw [hg]; exact Nat.ne_of_lt (blk_lt (g := gb293) (o := .cells #[.int .i64 a1_0, .int .i64 a1_1] 23 (0, 0)) (by (with_reducible repeat (first | apply bN | apply bD | apply bA)); exact BK293.out)) : gb293 ≠ gb332)); have n17_ := Aside0.mk ((by rw [hg]; exact Nat.ne_of_gt (blk_lt (g := gb293) (o := .cells #[.int .i64 a1_0, .int .i64 a1_1] 23 (0, 0)) (by (with_reducible repeat (first | apply bN | apply bD | apply bA)); exact BK293.out)) : gb332 ≠ gb293)); have n18_ := Aside0.mk ((by rw [hg]; exact Nat.ne_of_lt (blk_lt (g := gb294) (o := .cells #[.int .i64 a2_0, .int .i64 a2_1, .bool a2_2, .int .i64 a2_3, .int .i64 a2_4, .string a2_5] 39 (0, 0)) (by (with_reducible repeat (first | apply bN | apply bD | apply bA)); exact BK294.out)) : gb294 ≠ gb332)); have n19_ := Aside0.mk ((by rw [hg]; exact Nat.ne_of_gt (blk_lt (g := gb294) (o := .cells #[.int .i64 a2_0, .int .i64 a2_1, .bool a2_2, .int .i64 a2_3, .int .i64 a2_4, .string a2_5] 39 (0, 0)) (by (with_reducible repeat (first | apply bN | apply bD | apply bA)); exact BK294.out)) : gb332 ≠ gb294)); have n20_ := Aside0.mk ((by rw [hg]; exact Nat.ne_of_lt (blk_lt (g := gb295) (o := .cells #[.int .i64 a3_0, .int .i64 a3_1, .bool a3_2, .int .i64 a3_3, .int .i64 a3_4, .string a3_5] 39 (0, 0)) (by (with_reducible repeat (first | apply bN | apply bD | apply bA)); exact BK295.out)) : gb295 ≠ gb332)); have n21_ := Aside0.mk ((by rw [hg]; exact Nat.ne_of_gt (blk_lt (g := gb295) (o := .cells #[.int .i64 a3_0, .int .i64 a3_1, .bool a3_2, .int .i64 a3_3, .int .i64 a3_4, .string a3_5] 39 (0, 0)) (by (with_reducible repeat (first | apply bN | apply bD | apply bA)); exact BK295.out)) : gb332 ≠ gb295)); clear HO301; clear HO306; clear HO312; clear HO317; clear HO326; clear HO331; clear BK292; clear BK293; clear BK294; clear BK295; clear HB; have HO301 := n0_; have HO306 := n1_; have HO312 := n2_; have HO317 := n3_; have HO326 := n4_; have HO331 := n5_; have BK292 := n6_; have BK293 := n7_; have BK294 := n8_; have BK295 := n9_; have HB := n10_; have BK332 := n11_; have GW332 := n12_; have GE332 := n13_; have NB292_332 := n14_; have NB332_292 := n15_; have NB293_332 := n16_; have NB332_293 := n17_; have NB294_332 := n18_; have NB332_294 := n19_; have NB295_332 := n20_; have NB332_295 := n21_; clear n0_ n1_ n2_ n3_ n4_ n5_ n6_ n7_ n8_ n9_ n10_ n11_ n12_ n13_ n14_ n15_ n16_ n17_ n18_ n19_ n20_ n21_; clear hb hbox hg; have hnb35 := NB332_292.out; have hnc35 := NB292_332.out; have hnb36 := NB332_293.out; have hnc36 := NB293_332.out; have hnb37 := NB332_294.out; have hnc37 := NB294_332.out; have hnb38 := NB332_295.out; have hnc38 := NB295_332.out; obtain ⟨hcz39_0, hcz39_1, hcz39_2, hcz39_3, hcz39_4, hcz39_5, hcz39_6⟩ := blkC7 w34 gb332 (.int .i64 0) (.int .i64 0) (.int .i64 0) (.slice none 0 0) (.bool false) (.string (⟨#[]⟩ : ByteArray)) (.slice none 0 0) BK332.out; obtain ⟨hfz39_0, hfz39_1, hfz39_2, hfz39_3, hfz39_4, hfz39_5, hfz39_6⟩ := blkF7 BK332.out; obtain ⟨Ao40, co40, eo40⟩ := Kd.R_slice HO326.out; subst eo40; obtain ⟨Ao41, co41, eo41⟩ := Kd.R_slice HO331.out; subst eo41))
   (try simp only [Act.put, List.setIfInBounds_toArray, List.set_cons_zero, List.set_cons_succ])
   go_cut [48] (fun v48 wc => ∃ (kq : Nat) (x48_13 : Bool), v48 = .bool x48_13 ∧ Aside0 (reeflaw16_LeadHears.j0 kq a5 x48_13 a0_0 a0_1 a0_2 l0_3 a0_4 a0_5 l0_6 t321 t322 t323 t324 t327 t328 t329 = some r) ∧ Aside0 (kq ≤ k) ∧ Aside0 (Kd.R k39 39 wc w.heap.size (fun k_ => k_ ≠ gb294 ∧ k_ ≠ gb295) (.slice Ao40 t324.length co40) t324) ∧ Aside0 (Kd.R (Kd.int .i64) 3 wc w.heap.size (fun _ => True) (.slice Ao41 t329.length co41) t329) ∧ Aside0 (wc.heap[gb292]? = some (.cells #[.int .i64 a0_0, .int .i64 a0_1, .int .i64 a0_2, (.slice A0_3 l0_3.length c0_3), .bool a0_4, .string a0_5, (.slice A0_6 l0_6.length c0_6)] 37 (0, 0))) ∧ Aside0 (wc.heap[gb293]? = some (.cells #[.int .i64 a1_0, .int .i64 a1_1] 23 (0, 0))) ∧ Aside0 (wc.heap[gb294]? = some (.cells #[.int .i64 a2_0, .int .i64 a2_1, .bool a2_2, .int .i64 a2_3, .int .i64 a2_4, .string a2_5] 39 (0, 0))) ∧ Aside0 (wc.heap[gb295]? = some (.cells #[.int .i64 a3_0, .int .i64 a3_1, .bool a3_2, .int .i64 a3_3, .int .i64 a3_4, .string a3_5] 39 (0, 0))) ∧ Aside0 (wc.heap[gb332]? = some (.cells #[.int .i64 t321, .int .i64 t322, .int .i64 t323, (.slice Ao40 t324.length co40), .bool t327, .string t328, (.slice Ao41 t329.length co41)] 37 (0, 0))) ∧ Aside0 (Below w.heap.size w wc))
   case first =>
    have H := HC14.out
    clear HC14
    replace H := Option.bind_eq_some_iff.mp H
    obtain ⟨⟨t333, t334, t335, t336, t339, t340, t341⟩, A420, H⟩ := H
    replace H : ((reefref16_Hear.f k a0_0 a0_1 a0_2 l0_3 a0_4 a0_5 l0_6 a3_0 a3_1 a3_2 a3_3 a3_4 a3_5).bind fun bt344 => ((reefref16_Same.f k t333 t334 t335 t336 t339 t340 t341 bt344.1 bt344.2.1 bt344.2.2.1 bt344.2.2.2.1 bt344.2.2.2.2.1 bt344.2.2.2.2.2.1 bt344.2.2.2.2.2.2).bind fun t355 => (if t355 = true then ((lead_Enough.f t321 t322 t323 t324 t327 t328 t329 a4).bind fun t356 => ((reefref16_Enough.f a0_0 a0_1 a0_2 l0_3 a0_4 a0_5 l0_6 a4).bind fun t357 => (reeflaw16_LeadHears.j0 k a5 (t356 != t357) a0_0 a0_1 a0_2 l0_3 a0_4 a0_5 l0_6 t321 t322 t323 t324 t327 t328 t329))) else (none)))) = some r := H
    have A42 := Aside0.mk A420
    clear A420
    replace H := Option.bind_eq_some_iff.mp H
    obtain ⟨⟨t344, t345, t346, t347, t350, t351, t352⟩, A430, H⟩ := H
    replace H : ((reefref16_Same.f k t333 t334 t335 t336 t339 t340 t341 t344 t345 t346 t347 t350 t351 t352).bind fun t355 => (if t355 = true then ((lead_Enough.f t321 t322 t323 t324 t327 t328 t329 a4).bind fun t356 => ((reefref16_Enough.f a0_0 a0_1 a0_2 l0_3 a0_4 a0_5 l0_6 a4).bind fun t357 => (reeflaw16_LeadHears.j0 k a5 (t356 != t357) a0_0 a0_1 a0_2 l0_3 a0_4 a0_5 l0_6 t321 t322 t323 t324 t327 t328 t329))) else (none))) = some r := H
    have A43 := Aside0.mk A430
    clear A430
    replace H := Option.bind_eq_some_iff.mp H
    obtain ⟨t355, A440, H⟩ := H
    replace H : (if t355 = true then ((lead_Enough.f t321 t322 t323 t324 t327 t328 t329 a4).bind fun t356 => ((reefref16_Enough.f a0_0 a0_1 a0_2 l0_3 a0_4 a0_5 l0_6 a4).bind fun t357 => (reeflaw16_LeadHears.j0 k a5 (t356 != t357) a0_0 a0_1 a0_2 l0_3 a0_4 a0_5 l0_6 t321 t322 t323 t324 t327 t328 t329))) else (none)) = some r := H
    have A44 := Aside0.mk A440
    clear A440
    by_cases c45 : t355 = true
    ·subst c45
     have H1 : ((lead_Enough.f t321 t322 t323 t324 t327 t328 t329 a4).bind fun t356 => ((reefref16_Enough.f a0_0 a0_1 a0_2 l0_3 a0_4 a0_5 l0_6 a4).bind fun t357 => (reeflaw16_LeadHears.j0 k a5 (t356 != t357) a0_0 a0_1 a0_2 l0_3 a0_4 a0_5 l0_6 t321 t322 t323 t324 t327 t328 t329))) = some r := by rw [if_pos rfl] at H; exact H
     clear H
     have H := H1
     clear H1
     replace H := Option.bind_eq_some_iff.mp H
     obtain ⟨t356, A460, H⟩ := H
     replace H : ((reefref16_Enough.f a0_0 a0_1 a0_2 l0_3 a0_4 a0_5 l0_6 a4).bind fun t357 => (reeflaw16_LeadHears.j0 k a5 (t356 != t357) a0_0 a0_1 a0_2 l0_3 a0_4 a0_5 l0_6 t321 t322 t323 t324 t327 t328 t329)) = some r := H
     have A46 := Aside0.mk A460
     clear A460
     replace H := Option.bind_eq_some_iff.mp H
     obtain ⟨t357, A470, H⟩ := H
     replace H : (reeflaw16_LeadHears.j0 k a5 (t356 != t357) a0_0 a0_1 a0_2 l0_3 a0_4 a0_5 l0_6 t321 t322 t323 t324 t327 t328 t329) = some r := H
     have A47 := Aside0.mk A470
     clear A470
     have H' := Aside0.mk H
     clear H
     try go_wp2
     have n0_ : Aside0 (Kd.R k39 39 (((((((w34.setCell ⟨gb332, 0, none⟩ (.int .i64 t321)).setCell ⟨gb332, 1, none⟩ (.int .i64 t322)).setCell ⟨gb332, 2, none⟩ (.int .i64 t323)).setCell ⟨gb332, 3, none⟩ (.slice Ao40 t324.length co40)).setCell ⟨gb332, 4, none⟩ (.bool t327)).setCell ⟨gb332, 5, none⟩ (.string t328)).setCell ⟨gb332, 6, none⟩ (.slice Ao41 t329.length co41)) w.heap.size (fun k_ => some k_ ≠ (.slice Ao24 t310.length co24 : Value).ownBlock ∧ some k_ ≠ (.slice Ao40 t324.length co40 : Value).ownBlock ∧ k_ ≠ gb294 ∧ k_ ≠ gb295) (.slice Ao22 t299.length co22) t299) := ⟨by (with_reducible repeat (first | apply Kd.R_alloc | apply Kd.R_drewN | apply Kd.R_drew)); exact Kd.R_mono (Kd.R_far (p := ⟨gb332, 6, none⟩) (Kd.R_far (p := ⟨gb332, 5, none⟩) (Kd.R_far (p := ⟨gb332, 4, none⟩) (Kd.R_far (p := ⟨gb332, 3, none⟩) (Kd.R_far (p := ⟨gb332, 2, none⟩) (Kd.R_far (p := ⟨gb332, 1, none⟩) (Kd.R_far (p := ⟨gb332, 0, none⟩) (Kd.R_types HO301.out BK332.out (by decide)) (fun _ hk => hk.2) (.int .i64 t321)) (fun _ hk => hk.2) (.int .i64 t322)) (fun _ hk => hk.2) (.int .i64 t323)) (fun _ hk => hk.2) (.slice Ao40 t324.length co40)) (fun _ hk => hk.2) (.bool t327)) (fun _ hk => hk.2) (.string t328)) (fun _ hk => hk.2) (.slice Ao41 t329.length co41)) (fun _ hk => ⟨hk.1.1.2, ⟨hk.1.2, ⟨hk.1.1.1.1.2, hk.1.1.1.2⟩⟩⟩)⟩
     have n1_ : Aside0 (Kd.R (Kd.int .i64) 3 (((((((w34.setCell ⟨gb332, 0, none⟩ (.int .i64 t321)).setCell ⟨gb332, 1, none⟩ (.int .i64 t322)).setCell ⟨gb332, 2, none⟩ (.int .i64 t323)).setCell ⟨gb332, 3, none⟩ (.slice Ao40 t324.length co40)).setCell ⟨gb332, 4, none⟩ (.bool t327)).setCell ⟨gb332, 5, none⟩ (.string t328)).setCell ⟨gb332, 6, none⟩ (.slice Ao41 t329.length co41)) w.heap.size (fun k_ => some k_ ≠ (.slice Ao25 t315.length co25 : Value).ownBlock ∧ some k_ ≠ (.slice Ao41 t329.length co41 : Value).ownBlock) (.slice Ao23 t304.length co23) t304) := ⟨by (with_reducible repeat (first | apply Kd.R_alloc | apply Kd.R_drewN | apply Kd.R_drew)); exact Kd.R_mono (Kd.R_far (p := ⟨gb332, 6, none⟩) (Kd.R_far (p := ⟨gb332, 5, none⟩) (Kd.R_far (p := ⟨gb332, 4, none⟩) (Kd.R_far (p := ⟨gb332, 3, none⟩) (Kd.R_far (p := ⟨gb332, 2, none⟩) (Kd.R_far (p := ⟨gb332, 1, none⟩) (Kd.R_far (p := ⟨gb332, 0, none⟩) (Kd.R_types HO306.out BK332.out (by decide)) (fun _ hk => hk.2) (.int .i64 t321)) (fun _ hk => hk.2) (.int .i64 t322)) (fun _ hk => hk.2) (.int .i64 t323)) (fun _ hk => hk.2) (.slice Ao40 t324.length co40)) (fun _ hk => hk.2) (.bool t327)) (fun _ hk => hk.2) (.string t328)) (fun _ hk => hk.2) (.slice Ao41 t329.length co41)) (fun _ hk => ⟨hk.1.1.2, hk.1.2⟩)⟩
     have n2_ : Aside0 (Kd.R k39 39 (((((((w34.setCell ⟨gb332, 0, none⟩ (.int .i64 t321)).setCell ⟨gb332, 1, none⟩ (.int .i64 t322)).setCell ⟨gb332, 2, none⟩ (.int .i64 t323)).setCell ⟨gb332, 3, none⟩ (.slice Ao40 t324.length co40)).setCell ⟨gb332, 4, none⟩ (.bool t327)).setCell ⟨gb332, 5, none⟩ (.string t328)).setCell ⟨gb332, 6, none⟩ (.slice Ao41 t329.length co41)) w.heap.size (fun k_ => some k_ ≠ (.slice Ao22 t299.length co22 : Value).ownBlock ∧ some k_ ≠ (.slice Ao40 t324.length co40 : Value).ownBlock ∧ k_ ≠ gb294 ∧ k_ ≠ gb295) (.slice Ao24 t310.length co24) t310) := ⟨by (with_reducible repeat (first | apply Kd.R_alloc | apply Kd.R_drewN | apply Kd.R_drew)); exact Kd.R_mono (Kd.R_far (p := ⟨gb332, 6, none⟩) (Kd.R_far (p := ⟨gb332, 5, none⟩) (Kd.R_far (p := ⟨gb332, 4, none⟩) (Kd.R_far (p := ⟨gb332, 3, none⟩) (Kd.R_far (p := ⟨gb332, 2, none⟩) (Kd.R_far (p := ⟨gb332, 1, none⟩) (Kd.R_far (p := ⟨gb332, 0, none⟩) (Kd.R_types HO312.out BK332.out (by decide)) (fun _ hk => hk.2) (.int .i64 t321)) (fun _ hk => hk.2) (.int .i64 t322)) (fun _ hk => hk.2) (.int .i64 t323)) (fun _ hk => hk.2) (.slice Ao40 t324.length co40)) (fun _ hk => hk.2) (.bool t327)) (fun _ hk => hk.2) (.string t328)) (fun _ hk => hk.2) (.slice Ao41 t329.length co41)) (fun _ hk => ⟨hk.1.1.1.1.2, ⟨hk.1.2, ⟨hk.1.1.1.2, hk.1.1.2⟩⟩⟩)⟩
     have n3_ : Aside0 (Kd.R (Kd.int .i64) 3 (((((((w34.setCell ⟨gb332, 0, none⟩ (.int .i64 t321)).setCell ⟨gb332, 1, none⟩ (.int .i64 t322)).setCell ⟨gb332, 2, none⟩ (.int .i64 t323)).setCell ⟨gb332, 3, none⟩ (.slice Ao40 t324.length co40)).setCell ⟨gb332, 4, none⟩ (.bool t327)).setCell ⟨gb332, 5, none⟩ (.string t328)).setCell ⟨gb332, 6, none⟩ (.slice Ao41 t329.length co41)) w.heap.size (fun k_ => some k_ ≠ (.slice Ao23 t304.length co23 : Value).ownBlock ∧ some k_ ≠ (.slice Ao41 t329.length co41 : Value).ownBlock) (.slice Ao25 t315.length co25) t315) := ⟨by (with_reducible repeat (first | apply Kd.R_alloc | apply Kd.R_drewN | apply Kd.R_drew)); exact Kd.R_mono (Kd.R_far (p := ⟨gb332, 6, none⟩) (Kd.R_far (p := ⟨gb332, 5, none⟩) (Kd.R_far (p := ⟨gb332, 4, none⟩) (Kd.R_far (p := ⟨gb332, 3, none⟩) (Kd.R_far (p := ⟨gb332, 2, none⟩) (Kd.R_far (p := ⟨gb332, 1, none⟩) (Kd.R_far (p := ⟨gb332, 0, none⟩) (Kd.R_types HO317.out BK332.out (by decide)) (fun _ hk => hk.2) (.int .i64 t321)) (fun _ hk => hk.2) (.int .i64 t322)) (fun _ hk => hk.2) (.int .i64 t323)) (fun _ hk => hk.2) (.slice Ao40 t324.length co40)) (fun _ hk => hk.2) (.bool t327)) (fun _ hk => hk.2) (.string t328)) (fun _ hk => hk.2) (.slice Ao41 t329.length co41)) (fun _ hk => ⟨hk.1.1.2, hk.1.2⟩)⟩
     have n4_ : Aside0 (Kd.R k39 39 (((((((w34.setCell ⟨gb332, 0, none⟩ (.int .i64 t321)).setCell ⟨gb332, 1, none⟩ (.int .i64 t322)).setCell ⟨gb332, 2, none⟩ (.int .i64 t323)).setCell ⟨gb332, 3, none⟩ (.slice Ao40 t324.length co40)).setCell ⟨gb332, 4, none⟩ (.bool t327)).setCell ⟨gb332, 5, none⟩ (.string t328)).setCell ⟨gb332, 6, none⟩ (.slice Ao41 t329.length co41)) w.heap.size (fun k_ => some k_ ≠ (.slice Ao22 t299.length co22 : Value).ownBlock ∧ some k_ ≠ (.slice Ao24 t310.length co24 : Value).ownBlock ∧ k_ ≠ gb294 ∧ k_ ≠ gb295) (.slice Ao40 t324.length co40) t324) := ⟨by (with_reducible repeat (first | apply Kd.R_alloc | apply Kd.R_drewN | apply Kd.R_drew)); exact Kd.R_mono (Kd.R_far (p := ⟨gb332, 6, none⟩) (Kd.R_far (p := ⟨gb332, 5, none⟩) (Kd.R_far (p := ⟨gb332, 4, none⟩) (Kd.R_far (p := ⟨gb332, 3, none⟩) (Kd.R_far (p := ⟨gb332, 2, none⟩) (Kd.R_far (p := ⟨gb332, 1, none⟩) (Kd.R_far (p := ⟨gb332, 0, none⟩) (Kd.R_types HO326.out BK332.out (by decide)) (fun _ hk => hk.2) (.int .i64 t321)) (fun _ hk => hk.2) (.int .i64 t322)) (fun _ hk => hk.2) (.int .i64 t323)) (fun _ hk => hk.2) (.slice Ao40 t324.length co40)) (fun _ hk => hk.2) (.bool t327)) (fun _ hk => hk.2) (.string t328)) (fun _ hk => hk.2) (.slice Ao41 t329.length co41)) (fun _ hk => ⟨hk.1.1.1.1.2, ⟨hk.1.1.1.2, ⟨hk.1.1.2, hk.1.2⟩⟩⟩)⟩
     have n5_ : Aside0 (Kd.R (Kd.int .i64) 3 (((((((w34.setCell ⟨gb332, 0, none⟩ (.int .i64 t321)).setCell ⟨gb332, 1, none⟩ (.int .i64 t322)).setCell ⟨gb332, 2, none⟩ (.int .i64 t323)).setCell ⟨gb332, 3, none⟩ (.slice Ao40 t324.length co40)).setCell ⟨gb332, 4, none⟩ (.bool t327)).setCell ⟨gb332, 5, none⟩ (.string t328)).setCell ⟨gb332, 6, none⟩ (.slice Ao41 t329.length co41)) w.heap.size (fun k_ => some k_ ≠ (.slice Ao23 t304.length co23 : Value).ownBlock ∧ some k_ ≠ (.slice Ao25 t315.length co25 : Value).ownBlock) (.slice Ao41 t329.length co41) t329) := ⟨by (with_reducible repeat (first | apply Kd.R_alloc | apply Kd.R_drewN | apply Kd.R_drew)); exact Kd.R_mono (Kd.R_far (p := ⟨gb332, 6, none⟩) (Kd.R_far (p := ⟨gb332, 5, none⟩) (Kd.R_far (p := ⟨gb332, 4, none⟩) (Kd.R_far (p := ⟨gb332, 3, none⟩) (Kd.R_far (p := ⟨gb332, 2, none⟩) (Kd.R_far (p := ⟨gb332, 1, none⟩) (Kd.R_far (p := ⟨gb332, 0, none⟩) (Kd.R_types HO331.out BK332.out (by decide)) (fun _ hk => hk.2) (.int .i64 t321)) (fun _ hk => hk.2) (.int .i64 t322)) (fun _ hk => hk.2) (.int .i64 t323)) (fun _ hk => hk.2) (.slice Ao40 t324.length co40)) (fun _ hk => hk.2) (.bool t327)) (fun _ hk => hk.2) (.string t328)) (fun _ hk => hk.2) (.slice Ao41 t329.length co41)) (fun _ hk => ⟨hk.1.1.2, hk.1.2⟩)⟩
     have n6_ : Aside0 ((((((((w34.setCell ⟨gb332, 0, none⟩ (.int .i64 t321)).setCell ⟨gb332, 1, none⟩ (.int .i64 t322)).setCell ⟨gb332, 2, none⟩ (.int .i64 t323)).setCell ⟨gb332, 3, none⟩ (.slice Ao40 t324.length co40)).setCell ⟨gb332, 4, none⟩ (.bool t327)).setCell ⟨gb332, 5, none⟩ (.string t328)).setCell ⟨gb332, 6, none⟩ (.slice Ao41 t329.length co41)).heap[gb292]? = some (.cells #[.int .i64 a0_0, .int .i64 a0_1, .int .i64 a0_2, .slice A0_3 l0_3.length c0_3, .bool a0_4, .string a0_5, .slice A0_6 l0_6.length c0_6] 37 (0, 0))) := ⟨by (with_reducible repeat (first | apply bN | apply bD | apply bA)); refine blk_far ?_ NB292_332.out _; (with_reducible repeat (first | apply bN | apply bD | apply bA)); refine blk_far ?_ NB292_332.out _; (with_reducible repeat (first | apply bN | apply bD | apply bA)); refine blk_far ?_ NB292_332.out _; (with_reducible repeat (first | apply bN | apply bD | apply bA)); refine blk_far ?_ NB292_332.out _; (with_reducible repeat (first | apply bN | apply bD | apply bA)); refine blk_far ?_ NB292_332.out _; (with_reducible repeat (first | apply bN | apply bD | apply bA)); refine blk_far ?_ NB292_332.out _; (with_reducible repeat (first | apply bN | apply bD | apply bA)); refine blk_far ?_ NB292_332.out _; (with_reducible repeat (first | apply bN | apply bD | apply bA)); exact BK292.out⟩
     have n7_ : Aside0 ((((((((w34.setCell ⟨gb332, 0, none⟩ (.int .i64 t321)).setCell ⟨gb332, 1, none⟩ (.int .i64 t322)).setCell ⟨gb332, 2, none⟩ (.int .i64 t323)).setCell ⟨gb332, 3, none⟩ (.slice Ao40 t324.length co40)).setCell ⟨gb332, 4, none⟩ (.bool t327)).setCell ⟨gb332, 5, none⟩ (.string t328)).setCell ⟨gb332, 6, none⟩ (.slice Ao41 t329.length co41)).heap[gb293]? = some (.cells #[.int .i64 a1_0, .int .i64 a1_1] 23 (0, 0))) := ⟨by (with_reducible repeat (first | apply bN | apply bD | apply bA)); refine blk_far ?_ NB293_332.out _; (with_reducible repeat (first | apply bN | apply bD | apply bA)); refine blk_far ?_ NB293_332.out _; (with_reducible repeat (first | apply bN | apply bD | apply bA)); refine blk_far ?_ NB293_332.out _; (with_reducible repeat (first | apply bN | apply bD | apply bA)); refine blk_far ?_ NB293_332.out _; (with_reducible repeat (first | apply bN | apply bD | apply bA)); refine blk_far ?_ NB293_332.out _; (with_reducible repeat (first | apply bN | apply bD | apply bA)); refine blk_far ?_ NB293_332.out _; (with_reducible repeat (first | apply bN | apply bD | apply bA)); refine blk_far ?_ NB293_332.out _; (with_reducible repeat (first | apply bN | apply bD | apply bA)); exact BK293.out⟩
     have n8_ : Aside0 ((((((((w34.setCell ⟨gb332, 0, none⟩ (.int .i64 t321)).setCell ⟨gb332, 1, none⟩ (.int .i64 t322)).setCell ⟨gb332, 2, none⟩ (.int .i64 t323)).setCell ⟨gb332, 3, none⟩ (.slice Ao40 t324.length co40)).setCell ⟨gb332, 4, none⟩ (.bool t327)).setCell ⟨gb332, 5, none⟩ (.string t328)).setCell ⟨gb332, 6, none⟩ (.slice Ao41 t329.length co41)).heap[gb294]? = some (.cells #[.int .i64 a2_0, .int .i64 a2_1, .bool a2_2, .int .i64 a2_3, .int .i64 a2_4, .string a2_5] 39 (0, 0))) := ⟨by (with_reducible repeat (first | apply bN | apply bD | apply bA)); refine blk_far ?_ NB294_332.out _; (with_reducible repeat (first | apply bN | apply bD | apply bA)); refine blk_far ?_ NB294_332.out _; (with_reducible repeat (first | apply bN | apply bD | apply bA)); refine blk_far ?_ NB294_332.out _; (with_reducible repeat (first | apply bN | apply bD | apply bA)); refine blk_far ?_ NB294_332.out _; (with_reducible repeat (first | apply bN | apply bD | apply bA)); refine blk_far ?_ NB294_332.out _; (with_reducible repeat (first | apply bN | apply bD | apply bA)); refine blk_far ?_ NB294_332.out _; (with_reducible repeat (first | apply bN | apply bD | apply bA)); refine blk_far ?_ NB294_332.out _; (with_reducible repeat (first | apply bN | apply bD | apply bA)); exact BK294.out⟩
     have n9_ : Aside0 ((((((((w34.setCell ⟨gb332, 0, none⟩ (.int .i64 t321)).setCell ⟨gb332, 1, none⟩ (.int .i64 t322)).setCell ⟨gb332, 2, none⟩ (.int .i64 t323)).setCell ⟨gb332, 3, none⟩ (.slice Ao40 t324.length co40)).setCell ⟨gb332, 4, none⟩ (.bool t327)).setCell ⟨gb332, 5, none⟩ (.string t328)).setCell ⟨gb332, 6, none⟩ (.slice Ao41 t329.length co41)).heap[gb295]? = some (.cells #[.int .i64 a3_0, .int .i64 a3_1, .bool a3_2, .int .i64 a3_3, .int .i64 a3_4, .string a3_5] 39 (0, 0))) := ⟨by (with_reducible repeat (first | apply bN | apply bD | apply bA)); refine blk_far ?_ NB295_332.out _; (with_reducible repeat (first | apply bN | apply bD | apply bA)); refine blk_far ?_ NB295_332.out _; (with_reducible repeat (first | apply bN | apply bD | apply bA)); refine blk_far ?_ NB295_332.out _; (with_reducible repeat (first | apply bN | apply bD | apply bA)); refine blk_far ?_ NB295_332.out _; (with_reducible repeat (first | apply bN | apply bD | apply bA)); refine blk_far ?_ NB295_332.out _; (with_reducible repeat (first | apply bN | apply bD | apply bA)); refine blk_far ?_ NB295_332.out _; (with_reducible repeat (first | apply bN | apply bD | apply bA)); refine blk_far ?_ NB295_332.out _; (with_reducible repeat (first | apply bN | apply bD | apply bA)); exact BK295.out⟩
     have n10_ : Aside0 ((((((((w34.setCell ⟨gb332, 0, none⟩ (.int .i64 t321)).setCell ⟨gb332, 1, none⟩ (.int .i64 t322)).setCell ⟨gb332, 2, none⟩ (.int .i64 t323)).setCell ⟨gb332, 3, none⟩ (.slice Ao40 t324.length co40)).setCell ⟨gb332, 4, none⟩ (.bool t327)).setCell ⟨gb332, 5, none⟩ (.string t328)).setCell ⟨gb332, 6, none⟩ (.slice Ao41 t329.length co41)).heap[gb332]? = some (.cells #[.int .i64 t321, .int .i64 t322, .int .i64 t323, .slice Ao40 t324.length co40, .bool t327, .string t328, .slice Ao41 t329.length co41] 37 (0, 0))) := ⟨by (with_reducible repeat (first | apply bN | apply bD | apply bA)); refine blk_put (cs := #[.int .i64 t321, .int .i64 t322, .int .i64 t323, .slice Ao40 t324.length co40, .bool t327, .string t328, .slice none 0 0]) ?_ 6 _ rfl; (with_reducible repeat (first | apply bN | apply bD | apply bA)); refine blk_put (cs := #[.int .i64 t321, .int .i64 t322, .int .i64 t323, .slice Ao40 t324.length co40, .bool t327, .string (⟨#[]⟩ : ByteArray), .slice none 0 0]) ?_ 5 _ rfl; (with_reducible repeat (first | apply bN | apply bD | apply bA)); refine blk_put (cs := #[.int .i64 t321, .int .i64 t322, .int .i64 t323, .slice Ao40 t324.length co40, .bool false, .string (⟨#[]⟩ : ByteArray), .slice none 0 0]) ?_ 4 _ rfl; (with_reducible repeat (first | apply bN | apply bD | apply bA)); refine blk_put (cs := #[.int .i64 t321, .int .i64 t322, .int .i64 t323, .slice none 0 0, .bool false, .string (⟨#[]⟩ : ByteArray), .slice none 0 0]) ?_ 3 _ rfl; (with_reducible repeat (first | apply bN | apply bD | apply bA)); refine blk_put (cs := #[.int .i64 t321, .int .i64 t322, .int .i64 0, .slice none 0 0, .bool false, .string (⟨#[]⟩ : ByteArray), .slice none 0 0]) ?_ 2 _ rfl; (with_reducible repeat (first | apply bN | apply bD | apply bA)); refine blk_put (cs := #[.int .i64 t321, .int .i64 0, .int .i64 0, .slice none 0 0, .bool false, .string (⟨#[]⟩ : ByteArray), .slice none 0 0]) ?_ 1 _ rfl; (with_reducible repeat (first | apply bN | apply bD | apply bA)); refine blk_put (cs := #[.int .i64 0, .int .i64 0, .int .i64 0, .slice none 0 0, .bool false, .string (⟨#[]⟩ : ByteArray), .slice none 0 0]) ?_ 0 _ rfl; (with_reducible repeat (first | apply bN | apply bD | apply bA)); exact BK332.out⟩
     have n11_ : Aside0 (Below w.heap.size w (((((((w34.setCell ⟨gb332, 0, none⟩ (.int .i64 t321)).setCell ⟨gb332, 1, none⟩ (.int .i64 t322)).setCell ⟨gb332, 2, none⟩ (.int .i64 t323)).setCell ⟨gb332, 3, none⟩ (.slice Ao40 t324.length co40)).setCell ⟨gb332, 4, none⟩ (.bool t327)).setCell ⟨gb332, 5, none⟩ (.string t328)).setCell ⟨gb332, 6, none⟩ (.slice Ao41 t329.length co41))) := ⟨by repeat (first | (with_reducible first | exact HB.out | apply below_alloc | apply pw_below_drewN | apply below_drew1 | refine below_set ?_ (Aside0.out ‹_›)) | exact HB.out)⟩
     (try clear HO301)
     (try clear HO306)
     (try clear HO312)
     (try clear HO317)
     (try clear HO326)
     (try clear HO331)
     (try clear BK292)
     (try clear BK293)
     (try clear BK294)
     (try clear BK295)
     (try clear BK332)
     (try clear HB)
     generalize (((((((w34.setCell ⟨gb332, 0, none⟩ (.int .i64 t321)).setCell ⟨gb332, 1, none⟩ (.int .i64 t322)).setCell ⟨gb332, 2, none⟩ (.int .i64 t323)).setCell ⟨gb332, 3, none⟩ (.slice Ao40 t324.length co40)).setCell ⟨gb332, 4, none⟩ (.bool t327)).setCell ⟨gb332, 5, none⟩ (.string t328)).setCell ⟨gb332, 6, none⟩ (.slice Ao41 t329.length co41)) = w48 at n0_ n1_ n2_ n3_ n4_ n5_ n6_ n7_ n8_ n9_ n10_ n11_ ⊢
     have HO301 := n0_
     have HO306 := n1_
     have HO312 := n2_
     have HO317 := n3_
     have HO326 := n4_
     have HO331 := n5_
     have BK292 := n6_
     have BK293 := n7_
     have BK294 := n8_
     have BK295 := n9_
     have BK332 := n10_
     have HB := n11_
     clear n0_ n1_ n2_ n3_ n4_ n5_ n6_ n7_ n8_ n9_ n10_ n11_
     have n0_ := Aside0.mk (Kd.R_drew HO301.out)
     have n1_ := Aside0.mk (Kd.R_drew HO306.out)
     have n2_ := Aside0.mk (Kd.R_drew HO312.out)
     have n3_ := Aside0.mk (Kd.R_drew HO317.out)
     have n4_ := Aside0.mk (Kd.R_drew HO326.out)
     have n5_ := Aside0.mk (Kd.R_drew HO331.out)
     have n6_ := Aside0.mk (blk_drew BK292.out)
     have n7_ := Aside0.mk (blk_drew BK293.out)
     have n8_ := Aside0.mk (blk_drew BK294.out)
     have n9_ := Aside0.mk (blk_drew BK295.out)
     have n10_ := Aside0.mk (blk_drew BK332.out)
     have n11_ := Aside0.mk (below_drew1 HB.out)
     clear HO301
     clear HO306
     clear HO312
     clear HO317
     clear HO326
     clear HO331
     clear BK292
     clear BK293
     clear BK294
     clear BK295
     clear BK332
     clear HB
     have HO301 := n0_
     have HO306 := n1_
     have HO312 := n2_
     have HO317 := n3_
     have HO326 := n4_
     have HO331 := n5_
     have BK292 := n6_
     have BK293 := n7_
     have BK294 := n8_
     have BK295 := n9_
     have BK332 := n10_
     have HB := n11_
     clear n0_ n1_ n2_ n3_ n4_ n5_ n6_ n7_ n8_ n9_ n10_ n11_
     refine start_ (n := 17) (S := fun w' => w'.cell? ⟨gb332, 0, none⟩ = some (.int .i64 t321) ∧ w'.cell? ⟨gb332, 1, none⟩ = some (.int .i64 t322) ∧ w'.cell? ⟨gb332, 2, none⟩ = some (.int .i64 t323) ∧ w'.cell? ⟨gb332, 3, none⟩ = some (.slice Ao40 t324.length co40) ∧ w'.cell? ⟨gb332, 4, none⟩ = some (.bool t327) ∧ w'.cell? ⟨gb332, 5, none⟩ = some (.string t328) ∧ w'.cell? ⟨gb332, 6, none⟩ = some (.slice Ao41 t329.length co41) ∧ w'.cell? ⟨gb295, 0, none⟩ = some (.int .i64 a3_0) ∧ w'.cell? ⟨gb295, 1, none⟩ = some (.int .i64 a3_1) ∧ w'.cell? ⟨gb295, 2, none⟩ = some (.bool a3_2) ∧ w'.cell? ⟨gb295, 3, none⟩ = some (.int .i64 a3_3) ∧ w'.cell? ⟨gb295, 4, none⟩ = some (.int .i64 a3_4) ∧ w'.cell? ⟨gb295, 5, none⟩ = some (.string a3_5) ∧ w'.cell? ⟨gb292, 0, none⟩ = some (.int .i64 a0_0) ∧ w'.cell? ⟨gb292, 1, none⟩ = some (.int .i64 a0_1) ∧ w'.cell? ⟨gb292, 2, none⟩ = some (.int .i64 a0_2) ∧ w'.cell? ⟨gb292, 3, none⟩ = some (.slice A0_3 l0_3.length c0_3) ∧ w'.cell? ⟨gb292, 4, none⟩ = some (.bool a0_4) ∧ w'.cell? ⟨gb292, 5, none⟩ = some (.string a0_5) ∧ w'.cell? ⟨gb292, 6, none⟩ = some (.slice A0_6 l0_6.length c0_6)) (ds := []) #[false, false, false, false, false, false, false, false, false, false, false, false, false, false, false, false, false] (by kernel_rfl) rfl rfl ⟨(blk_cell BK332.out 0).trans rfl, (blk_cell BK332.out 1).trans rfl, (blk_cell BK332.out 2).trans rfl, (blk_cell BK332.out 3).trans rfl, (blk_cell BK332.out 4).trans rfl, (blk_cell BK332.out 5).trans rfl, (blk_cell BK332.out 6).trans rfl, (blk_cell BK295.out 0).trans rfl, (blk_cell BK295.out 1).trans rfl, (blk_cell BK295.out 2).trans rfl, (blk_cell BK295.out 3).trans rfl, (blk_cell BK295.out 4).trans rfl, (blk_cell BK295.out 5).trans rfl, (blk_cell BK292.out 0).trans rfl, (blk_cell BK292.out 1).trans rfl, (blk_cell BK292.out 2).trans rfl, (blk_cell BK292.out 3).trans rfl, (blk_cell BK292.out 4).trans rfl, (blk_cell BK292.out 5).trans rfl, (blk_cell BK292.out 6).trans rfl⟩ (fun hHeld => ?_); refine with_tabW reeflaw16_LeadHears.tab6 reeflaw16_LeadHears.bits6 (fun HT_ HW_ => ?_)
     generalize w48.drew = w49 at HO301 HO306 HO312 HO317 HO326 HO331 BK292 BK293 BK294 BK295 BK332 HB hHeld ⊢
     refine take_ (i := 0) (N := some 32) (v := ?_) (a' := ?_) #[true, false, false, false, false, false, false, false, false, false, false, false, false, false, false, false, false] rfl rfl (take_ofW HT_.out HW_.out (by kernel_rfl)) (fun _ _ _ h => h) (Or.inl ⟨by rfl, ?_⟩) hHeld ?_ ?_
     rotate_left
     ·rintro w' ⟨s0, s1, s2, s3, s4, s5, s6, s7, s8, s9, s10, s11, s12, s13, s14, s15, s16, s17, s18, s19⟩
      go_simp
      with_reducible rfl
     rotate_left
     ·simp only [Act.put, List.setIfInBounds_toArray, List.set_cons_zero, List.set_cons_succ, i64_w, i32_w]
      rfl
     refine take_ (i := 1) (N := some 33) (v := ?_) (a' := ?_) #[true, true, false, false, false, false, false, false, false, false, false, false, false, false, false, false, false] rfl rfl (take_ofW HT_.out HW_.out (by kernel_rfl)) (fun _ _ _ h => h) (Or.inl ⟨by rfl, ?_⟩) hHeld ?_ ?_
     rotate_left
     ·rintro w' ⟨s0, s1, s2, s3, s4, s5, s6, s7, s8, s9, s10, s11, s12, s13, s14, s15, s16, s17, s18, s19⟩
      go_simp
      with_reducible rfl
     rotate_left
     ·simp only [Act.put, List.setIfInBounds_toArray, List.set_cons_zero, List.set_cons_succ, i64_w, i32_w]
      rfl
     refine take_ (i := 3) (N := some 35) (v := ?_) (a' := ?_) #[true, true, false, true, false, false, false, false, false, false, false, false, false, false, false, false, false] rfl rfl (take_ofW HT_.out HW_.out (by kernel_rfl)) (fun _ _ _ h => h) (Or.inl ⟨by rfl, ?_⟩) hHeld ?_ ?_
     rotate_left
     ·rintro w' ⟨s0, s1, s2, s3, s4, s5, s6, s7, s8, s9, s10, s11, s12, s13, s14, s15, s16, s17, s18, s19⟩
      go_simp
      with_reducible rfl
     rotate_left
     ·simp only [Act.put, List.setIfInBounds_toArray, List.set_cons_zero, List.set_cons_succ, i64_w, i32_w]
      rfl
     refine take_ (i := 4) (N := some 36) (v := ?_) (a' := ?_) #[true, true, false, true, true, false, false, false, false, false, false, false, false, false, false, false, false] rfl rfl (take_ofW HT_.out HW_.out (by kernel_rfl)) (fun _ _ _ h => h) (Or.inl ⟨by rfl, ?_⟩) hHeld ?_ ?_
     rotate_left
     ·rintro w' ⟨s0, s1, s2, s3, s4, s5, s6, s7, s8, s9, s10, s11, s12, s13, s14, s15, s16, s17, s18, s19⟩
      go_simp
      with_reducible rfl
     rotate_left
     ·simp only [Act.put, List.setIfInBounds_toArray, List.set_cons_zero, List.set_cons_succ, i64_w, i32_w]
      rfl
     refine one_ (i := 2) (N := some 34) #[true, true, true, true, true, false, false, false, false, false, false, false, false, false, false, false, false] rfl rfl (one_of HT_.out (by kernel_rfl)) (by decide) (fun K hK => ?_)
     refine goes_ Try.func20 (by kernel_rfl) rfl #[.agg #[.int .i64 t321, .int .i64 t322, .int .i64 t323, .slice Ao40 t324.length co40, .bool t327, .string t328, .slice Ao41 t329.length co41], .agg #[.int .i64 a3_0, .int .i64 a3_1, .bool a3_2, .int .i64 a3_3, .int .i64 a3_4, .string a3_5]] (by rfl) rfl rfl (by (try simp only [List.map_toArray, List.map_cons, List.map_nil]); first | done | rfl | (simp only [List.length_drop, List.length_take]; rfl)) ?_
     with_reducible refine (lead_Hear.calls k t321 t322 t323 _ _ t324 t327 t328 _ _ t329 a3_0 a3_1 a3_2 a3_3 a3_4 a3_5 t333 t334 t335 t336 t339 t340 t341 _ ?side1 ?side2 ?side3 ?side4 A42.out).mono ?_
     (case side1 => repeat (first | exact (Kd.R_reads' HO326.out).2.2 | (with_reducible refine Kd.C_alloc ?_ _) | (with_reducible refine Kd.C_drewN ?_ _) | (with_reducible refine Kd.C_drew ?_)))
     (case side2 => exact (Kd.R_reads' HO326.out).2.1)
     (case side3 => repeat (first | exact (Kd.R_reads' HO331.out).2.2 | (with_reducible refine Kd.C_alloc ?_ _) | (with_reducible refine Kd.C_drewN ?_ _) | (with_reducible refine Kd.C_drew ?_)))
     (case side4 => exact (Kd.R_reads' HO331.out).2.1)
     rintro e w50 ⟨v337, v342, rfl, ho0, ho1, hb⟩
     refine ⟨_, rfl, ?_⟩
     have n0_ := Aside0.mk (Kd.R_elder' (by (with_reducible repeat (first | apply Kd.R_alloc | apply Kd.R_drewN | apply Kd.R_drew)); exact HO301.out) (Kd.R_base ho0) hb)
     have n1_ := Aside0.mk (Kd.R_elder' (by (with_reducible repeat (first | apply Kd.R_alloc | apply Kd.R_drewN | apply Kd.R_drew)); exact HO306.out) (Kd.R_base ho1) hb)
     have n2_ := Aside0.mk (Kd.R_elder' (by (with_reducible repeat (first | apply Kd.R_alloc | apply Kd.R_drewN | apply Kd.R_drew)); exact HO312.out) (Kd.R_base ho0) hb)
     have n3_ := Aside0.mk (Kd.R_elder' (by (with_reducible repeat (first | apply Kd.R_alloc | apply Kd.R_drewN | apply Kd.R_drew)); exact HO317.out) (Kd.R_base ho1) hb)
     have n4_ := Aside0.mk (Kd.R_elder' (by (with_reducible repeat (first | apply Kd.R_alloc | apply Kd.R_drewN | apply Kd.R_drew)); exact HO326.out) (Kd.R_base ho0) hb)
     have n5_ := Aside0.mk (Kd.R_elder' (by (with_reducible repeat (first | apply Kd.R_alloc | apply Kd.R_drewN | apply Kd.R_drew)); exact HO331.out) (Kd.R_base ho1) hb)
     have n6_ := Aside0.mk (Kd.R_lower (Kd.R_newB (Kd.R_newB (Kd.R_new' (Kd.R_new' (Kd.R_new' ho0 (Kd.R_lt (by (with_reducible repeat (first | apply Kd.R_alloc | apply Kd.R_drewN | apply Kd.R_drew)); exact HO301.out))) (Kd.R_lt (by (with_reducible repeat (first | apply Kd.R_alloc | apply Kd.R_drewN | apply Kd.R_drew)); exact HO312.out))) (Kd.R_lt (by (with_reducible repeat (first | apply Kd.R_alloc | apply Kd.R_drewN | apply Kd.R_drew)); exact HO326.out))) (g := gb294) (o := .cells #[.int .i64 a2_0, .int .i64 a2_1, .bool a2_2, .int .i64 a2_3, .int .i64 a2_4, .string a2_5] 39 (0, 0)) (by (with_reducible repeat (first | apply bN | apply bD | apply bA)); exact BK294.out)) (g := gb295) (o := .cells #[.int .i64 a3_0, .int .i64 a3_1, .bool a3_2, .int .i64 a3_3, .int .i64 a3_4, .string a3_5] 39 (0, 0)) (by (with_reducible repeat (first | apply bN | apply bD | apply bA)); exact BK295.out)) (below_size (by repeat (first | (with_reducible first | exact HB.out | apply below_alloc | apply pw_below_drewN | apply below_drew1 | refine below_set ?_ (Aside0.out ‹_›)) | exact HB.out))))
     have n7_ := Aside0.mk (Kd.R_lower (Kd.R_new' (Kd.R_new' (Kd.R_new' ho1 (Kd.R_lt (by (with_reducible repeat (first | apply Kd.R_alloc | apply Kd.R_drewN | apply Kd.R_drew)); exact HO306.out))) (Kd.R_lt (by (with_reducible repeat (first | apply Kd.R_alloc | apply Kd.R_drewN | apply Kd.R_drew)); exact HO317.out))) (Kd.R_lt (by (with_reducible repeat (first | apply Kd.R_alloc | apply Kd.R_drewN | apply Kd.R_drew)); exact HO331.out))) (below_size (by repeat (first | (with_reducible first | exact HB.out | apply below_alloc | apply pw_below_drewN | apply below_drew1 | refine below_set ?_ (Aside0.out ‹_›)) | exact HB.out))))
     have n8_ := Aside0.mk (blk_below (g := gb292) (o := .cells #[.int .i64 a0_0, .int .i64 a0_1, .int .i64 a0_2, .slice A0_3 l0_3.length c0_3, .bool a0_4, .string a0_5, .slice A0_6 l0_6.length c0_6] 37 (0, 0)) (by (with_reducible repeat (first | apply bN | apply bD | apply bA)); exact BK292.out) hb)
     have n9_ := Aside0.mk (blk_below (g := gb293) (o := .cells #[.int .i64 a1_0, .int .i64 a1_1] 23 (0, 0)) (by (with_reducible repeat (first | apply bN | apply bD | apply bA)); exact BK293.out) hb)
     have n10_ := Aside0.mk (blk_below (g := gb294) (o := .cells #[.int .i64 a2_0, .int .i64 a2_1, .bool a2_2, .int .i64 a2_3, .int .i64 a2_4, .string a2_5] 39 (0, 0)) (by (with_reducible repeat (first | apply bN | apply bD | apply bA)); exact BK294.out) hb)
     have n11_ := Aside0.mk (blk_below (g := gb295) (o := .cells #[.int .i64 a3_0, .int .i64 a3_1, .bool a3_2, .int .i64 a3_3, .int .i64 a3_4, .string a3_5] 39 (0, 0)) (by (with_reducible repeat (first | apply bN | apply bD | apply bA)); exact BK295.out) hb)
     have n12_ := Aside0.mk (blk_below (g := gb332) (o := .cells #[.int .i64 t321, .int .i64 t322, .int .i64 t323, .slice Ao40 t324.length co40, .bool t327, .string t328, .slice Ao41 t329.length co41] 37 (0, 0)) (by (with_reducible repeat (first | apply bN | apply bD | apply bA)); exact BK332.out) hb)
     have n13_ := Aside0.mk (below_step (by repeat (first | (with_reducible first | exact HB.out | apply below_alloc | apply pw_below_drewN | apply below_drew1 | refine below_set ?_ (Aside0.out ‹_›)) | exact HB.out)) hb)
     clear HO301
     clear HO306
     clear HO312
     clear HO317
     clear HO326
     clear HO331
     clear BK292
     clear BK293
     clear BK294
     clear BK295
     clear BK332
     clear HB
     have HO301 := n0_
     have HO306 := n1_
     have HO312 := n2_
     have HO317 := n3_
     have HO326 := n4_
     have HO331 := n5_
     have HO338 := n6_
     have HO343 := n7_
     have BK292 := n8_
     have BK293 := n9_
     have BK294 := n10_
     have BK295 := n11_
     have BK332 := n12_
     have HB := n13_
     clear n0_ n1_ n2_ n3_ n4_ n5_ n6_ n7_ n8_ n9_ n10_ n11_ n12_ n13_
     (try clear hb)
     (try clear hb2)
     (try clear hk)
     (try clear hi)
     (try clear ho0)
     (try clear ho1)
     refine hK.out _ _ ⟨(blk_cell BK332.out 0).trans rfl, (blk_cell BK332.out 1).trans rfl, (blk_cell BK332.out 2).trans rfl, (blk_cell BK332.out 3).trans rfl, (blk_cell BK332.out 4).trans rfl, (blk_cell BK332.out 5).trans rfl, (blk_cell BK332.out 6).trans rfl, (blk_cell BK295.out 0).trans rfl, (blk_cell BK295.out 1).trans rfl, (blk_cell BK295.out 2).trans rfl, (blk_cell BK295.out 3).trans rfl, (blk_cell BK295.out 4).trans rfl, (blk_cell BK295.out 5).trans rfl, (blk_cell BK292.out 0).trans rfl, (blk_cell BK292.out 1).trans rfl, (blk_cell BK292.out 2).trans rfl, (blk_cell BK292.out 3).trans rfl, (blk_cell BK292.out 4).trans rfl, (blk_cell BK292.out 5).trans rfl, (blk_cell BK292.out 6).trans rfl⟩ (fun hHeld => ?_)
     clear hK K
     refine norm_ (a' := ?_) ?_ ?_
     rotate_left
     ·show Act.put _ (some 34) _ = _
      simp only [Act.put, List.setIfInBounds_toArray, List.set_cons_zero, List.set_cons_succ, i64_w, i32_w]
      rfl
     refine one_ (i := 5) (N := some 37) #[true, true, true, true, true, true, false, false, false, false, false, false, false, false, false, false, false] rfl rfl (one_of HT_.out (by kernel_rfl)) (by decide) (fun K hK => ?_)
     refine goes_ Try.func21 (by kernel_rfl) rfl #[.agg #[.int .i64 a0_0, .int .i64 a0_1, .int .i64 a0_2, .slice A0_3 l0_3.length c0_3, .bool a0_4, .string a0_5, .slice A0_6 l0_6.length c0_6], .agg #[.int .i64 a3_0, .int .i64 a3_1, .bool a3_2, .int .i64 a3_3, .int .i64 a3_4, .string a3_5]] (by rfl) rfl rfl (by (try simp only [List.map_toArray, List.map_cons, List.map_nil]); first | done | rfl | (simp only [List.length_drop, List.length_take]; rfl)) ?_
     with_reducible refine (reefref16_Hear.calls k a0_0 a0_1 a0_2 _ _ l0_3 a0_4 a0_5 _ _ l0_6 a3_0 a3_1 a3_2 a3_3 a3_4 a3_5 t344 t345 t346 t347 t350 t351 t352 _ ?side1 ?side2 ?side3 ?side4 A43.out).mono ?_
     (case side1 => repeat (first | exact (Kd.C_below HR0_3.out HB.out) | (with_reducible refine Kd.C_alloc ?_ _) | (with_reducible refine Kd.C_drewN ?_ _) | (with_reducible refine Kd.C_drew ?_)))
     (case side2 => exact HC0_3.out)
     (case side3 => repeat (first | exact (Kd.C_below HR0_6.out HB.out) | (with_reducible refine Kd.C_alloc ?_ _) | (with_reducible refine Kd.C_drewN ?_ _) | (with_reducible refine Kd.C_drew ?_)))
     (case side4 => exact HC0_6.out)
     rintro e w51 ⟨v348, v353, rfl, ho0, ho1, hb⟩
     refine ⟨_, rfl, ?_⟩
     have n0_ := Aside0.mk (Kd.R_elder' (by (with_reducible repeat (first | apply Kd.R_alloc | apply Kd.R_drewN | apply Kd.R_drew)); exact HO301.out) (Kd.R_base ho0) hb)
     have n1_ := Aside0.mk (Kd.R_elder' (by (with_reducible repeat (first | apply Kd.R_alloc | apply Kd.R_drewN | apply Kd.R_drew)); exact HO306.out) (Kd.R_base ho1) hb)
     have n2_ := Aside0.mk (Kd.R_elder' (by (with_reducible repeat (first | apply Kd.R_alloc | apply Kd.R_drewN | apply Kd.R_drew)); exact HO312.out) (Kd.R_base ho0) hb)
     have n3_ := Aside0.mk (Kd.R_elder' (by (with_reducible repeat (first | apply Kd.R_alloc | apply Kd.R_drewN | apply Kd.R_drew)); exact HO317.out) (Kd.R_base ho1) hb)
     have n4_ := Aside0.mk (Kd.R_elder' (by (with_reducible repeat (first | apply Kd.R_alloc | apply Kd.R_drewN | apply Kd.R_drew)); exact HO326.out) (Kd.R_base ho0) hb)
     have n5_ := Aside0.mk (Kd.R_elder' (by (with_reducible repeat (first | apply Kd.R_alloc | apply Kd.R_drewN | apply Kd.R_drew)); exact HO331.out) (Kd.R_base ho1) hb)
     have n6_ := Aside0.mk (Kd.R_elder' (by (with_reducible repeat (first | apply Kd.R_alloc | apply Kd.R_drewN | apply Kd.R_drew)); exact HO338.out) (Kd.R_base ho0) hb)
     have n7_ := Aside0.mk (Kd.R_elder' (by (with_reducible repeat (first | apply Kd.R_alloc | apply Kd.R_drewN | apply Kd.R_drew)); exact HO343.out) (Kd.R_base ho1) hb)
     have n8_ := Aside0.mk (Kd.R_lower (Kd.R_newB (Kd.R_newB (Kd.R_new' (Kd.R_new' (Kd.R_new' (Kd.R_new' ho0 (Kd.R_lt (by (with_reducible repeat (first | apply Kd.R_alloc | apply Kd.R_drewN | apply Kd.R_drew)); exact HO301.out))) (Kd.R_lt (by (with_reducible repeat (first | apply Kd.R_alloc | apply Kd.R_drewN | apply Kd.R_drew)); exact HO312.out))) (Kd.R_lt (by (with_reducible repeat (first | apply Kd.R_alloc | apply Kd.R_drewN | apply Kd.R_drew)); exact HO326.out))) (Kd.R_lt (by (with_reducible repeat (first | apply Kd.R_alloc | apply Kd.R_drewN | apply Kd.R_drew)); exact HO338.out))) (g := gb294) (o := .cells #[.int .i64 a2_0, .int .i64 a2_1, .bool a2_2, .int .i64 a2_3, .int .i64 a2_4, .string a2_5] 39 (0, 0)) (by (with_reducible repeat (first | apply bN | apply bD | apply bA)); exact BK294.out)) (g := gb295) (o := .cells #[.int .i64 a3_0, .int .i64 a3_1, .bool a3_2, .int .i64 a3_3, .int .i64 a3_4, .string a3_5] 39 (0, 0)) (by (with_reducible repeat (first | apply bN | apply bD | apply bA)); exact BK295.out)) (below_size (by repeat (first | (with_reducible first | exact HB.out | apply below_alloc | apply pw_below_drewN | apply below_drew1 | refine below_set ?_ (Aside0.out ‹_›)) | exact HB.out))))
     have n9_ := Aside0.mk (Kd.R_lower (Kd.R_new' (Kd.R_new' (Kd.R_new' (Kd.R_new' ho1 (Kd.R_lt (by (with_reducible repeat (first | apply Kd.R_alloc | apply Kd.R_drewN | apply Kd.R_drew)); exact HO306.out))) (Kd.R_lt (by (with_reducible repeat (first | apply Kd.R_alloc | apply Kd.R_drewN | apply Kd.R_drew)); exact HO317.out))) (Kd.R_lt (by (with_reducible repeat (first | apply Kd.R_alloc | apply Kd.R_drewN | apply Kd.R_drew)); exact HO331.out))) (Kd.R_lt (by (with_reducible repeat (first | apply Kd.R_alloc | apply Kd.R_drewN | apply Kd.R_drew)); exact HO343.out))) (below_size (by repeat (first | (with_reducible first | exact HB.out | apply below_alloc | apply pw_below_drewN | apply below_drew1 | refine below_set ?_ (Aside0.out ‹_›)) | exact HB.out))))
     have n10_ := Aside0.mk (blk_below (g := gb292) (o := .cells #[.int .i64 a0_0, .int .i64 a0_1, .int .i64 a0_2, .slice A0_3 l0_3.length c0_3, .bool a0_4, .string a0_5, .slice A0_6 l0_6.length c0_6] 37 (0, 0)) (by (with_reducible repeat (first | apply bN | apply bD | apply bA)); exact BK292.out) hb)
     have n11_ := Aside0.mk (blk_below (g := gb293) (o := .cells #[.int .i64 a1_0, .int .i64 a1_1] 23 (0, 0)) (by (with_reducible repeat (first | apply bN | apply bD | apply bA)); exact BK293.out) hb)
     have n12_ := Aside0.mk (blk_below (g := gb294) (o := .cells #[.int .i64 a2_0, .int .i64 a2_1, .bool a2_2, .int .i64 a2_3, .int .i64 a2_4, .string a2_5] 39 (0, 0)) (by (with_reducible repeat (first | apply bN | apply bD | apply bA)); exact BK294.out) hb)
     have n13_ := Aside0.mk (blk_below (g := gb295) (o := .cells #[.int .i64 a3_0, .int .i64 a3_1, .bool a3_2, .int .i64 a3_3, .int .i64 a3_4, .string a3_5] 39 (0, 0)) (by (with_reducible repeat (first | apply bN | apply bD | apply bA)); exact BK295.out) hb)
     have n14_ := Aside0.mk (blk_below (g := gb332) (o := .cells #[.int .i64 t321, .int .i64 t322, .int .i64 t323, .slice Ao40 t324.length co40, .bool t327, .string t328, .slice Ao41 t329.length co41] 37 (0, 0)) (by (with_reducible repeat (first | apply bN | apply bD | apply bA)); exact BK332.out) hb)
     have n15_ := Aside0.mk (below_step (by repeat (first | (with_reducible first | exact HB.out | apply below_alloc | apply pw_below_drewN | apply below_drew1 | refine below_set ?_ (Aside0.out ‹_›)) | exact HB.out)) hb)
     clear HO301
     clear HO306
     clear HO312
     clear HO317
     clear HO326
     clear HO331
     clear HO338
     clear HO343
     clear BK292
     clear BK293
     clear BK294
     clear BK295
     clear BK332
     clear HB
     have HO301 := n0_
     have HO306 := n1_
     have HO312 := n2_
     have HO317 := n3_
     have HO326 := n4_
     have HO331 := n5_
     have HO338 := n6_
     have HO343 := n7_
     have HO349 := n8_
     have HO354 := n9_
     have BK292 := n10_
     have BK293 := n11_
     have BK294 := n12_
     have BK295 := n13_
     have BK332 := n14_
     have HB := n15_
     clear n0_ n1_ n2_ n3_ n4_ n5_ n6_ n7_ n8_ n9_ n10_ n11_ n12_ n13_ n14_ n15_
     (try clear hb)
     (try clear hb2)
     (try clear hk)
     (try clear hi)
     (try clear ho0)
     (try clear ho1)
     obtain ⟨Ao52, co52, eo52⟩ := Kd.R_slice HO338.out
     (first | subst eo52 | (injection eo52 with f1_ f2_ f3_; have f4_ := f1_.symm; have f5_ := f3_.symm; clear f1_ f2_ f3_; subst f4_; subst f5_))
     obtain ⟨Ao53, co53, eo53⟩ := Kd.R_slice HO343.out
     (first | subst eo53 | (injection eo53 with f1_ f2_ f3_; have f4_ := f1_.symm; have f5_ := f3_.symm; clear f1_ f2_ f3_; subst f4_; subst f5_))
     obtain ⟨Ao54, co54, eo54⟩ := Kd.R_slice HO349.out
     (first | subst eo54 | (injection eo54 with f1_ f2_ f3_; have f4_ := f1_.symm; have f5_ := f3_.symm; clear f1_ f2_ f3_; subst f4_; subst f5_))
     obtain ⟨Ao55, co55, eo55⟩ := Kd.R_slice HO354.out
     (first | subst eo55 | (injection eo55 with f1_ f2_ f3_; have f4_ := f1_.symm; have f5_ := f3_.symm; clear f1_ f2_ f3_; subst f4_; subst f5_))
     refine hK.out _ _ ⟨(blk_cell BK332.out 0).trans rfl, (blk_cell BK332.out 1).trans rfl, (blk_cell BK332.out 2).trans rfl, (blk_cell BK332.out 3).trans rfl, (blk_cell BK332.out 4).trans rfl, (blk_cell BK332.out 5).trans rfl, (blk_cell BK332.out 6).trans rfl, (blk_cell BK295.out 0).trans rfl, (blk_cell BK295.out 1).trans rfl, (blk_cell BK295.out 2).trans rfl, (blk_cell BK295.out 3).trans rfl, (blk_cell BK295.out 4).trans rfl, (blk_cell BK295.out 5).trans rfl, (blk_cell BK292.out 0).trans rfl, (blk_cell BK292.out 1).trans rfl, (blk_cell BK292.out 2).trans rfl, (blk_cell BK292.out 3).trans rfl, (blk_cell BK292.out 4).trans rfl, (blk_cell BK292.out 5).trans rfl, (blk_cell BK292.out 6).trans rfl⟩ (fun hHeld => ?_)
     clear hK K
     refine norm_ (a' := ?_) ?_ ?_
     rotate_left
     ·show Act.put _ (some 37) _ = _
      simp only [Act.put, List.setIfInBounds_toArray, List.set_cons_zero, List.set_cons_succ, i64_w, i32_w]
      rfl
     refine one_ (i := 6) (N := some 38) #[true, true, true, true, true, true, true, false, false, false, false, false, false, false, false, false, false] rfl rfl (one_of HT_.out (by kernel_rfl)) (by decide) (fun K hK => ?_)
     refine goes_ Try.func19 (by kernel_rfl) rfl #[.agg #[.int .i64 t333, .int .i64 t334, .int .i64 t335, .slice Ao52 t336.length co52, .bool t339, .string t340, .slice Ao53 t341.length co53], .agg #[.int .i64 t344, .int .i64 t345, .int .i64 t346, .slice Ao54 t347.length co54, .bool t350, .string t351, .slice Ao55 t352.length co55]] (by rfl) rfl rfl (by (try simp only [List.map_toArray, List.map_cons, List.map_nil]); first | done | rfl | (simp only [List.length_drop, List.length_take]; rfl)) ?_
     with_reducible refine (reefref16_Same.calls k t333 t334 t335 _ _ t336 t339 t340 _ _ t341 t344 t345 t346 _ _ t347 t350 t351 _ _ t352 true _ ?side1 ?side2 ?side3 ?side4 ?side5 ?side6 ?side7 ?side8 A44.out).mono ?_
     (case side1 => repeat (first | exact (Kd.R_reads' HO338.out).2.2 | (with_reducible refine Kd.C_alloc ?_ _) | (with_reducible refine Kd.C_drewN ?_ _) | (with_reducible refine Kd.C_drew ?_)))
     (case side2 => exact (Kd.R_reads' HO338.out).2.1)
     (case side3 => repeat (first | exact (Kd.R_reads' HO343.out).2.2 | (with_reducible refine Kd.C_alloc ?_ _) | (with_reducible refine Kd.C_drewN ?_ _) | (with_reducible refine Kd.C_drew ?_)))
     (case side4 => exact (Kd.R_reads' HO343.out).2.1)
     (case side5 => repeat (first | exact (Kd.R_reads' HO349.out).2.2 | (with_reducible refine Kd.C_alloc ?_ _) | (with_reducible refine Kd.C_drewN ?_ _) | (with_reducible refine Kd.C_drew ?_)))
     (case side6 => exact (Kd.R_reads' HO349.out).2.1)
     (case side7 => repeat (first | exact (Kd.R_reads' HO354.out).2.2 | (with_reducible refine Kd.C_alloc ?_ _) | (with_reducible refine Kd.C_drewN ?_ _) | (with_reducible refine Kd.C_drew ?_)))
     (case side8 => exact (Kd.R_reads' HO354.out).2.1)
     rintro e w56 ⟨rfl, hb⟩
     refine ⟨_, rfl, ?_⟩
     have n0_ := Aside0.mk (Kd.R_below (by (with_reducible repeat (first | apply Kd.R_alloc | apply Kd.R_drewN | apply Kd.R_drew)); exact HO301.out) hb)
     have n1_ := Aside0.mk (Kd.R_below (by (with_reducible repeat (first | apply Kd.R_alloc | apply Kd.R_drewN | apply Kd.R_drew)); exact HO306.out) hb)
     have n2_ := Aside0.mk (Kd.R_below (by (with_reducible repeat (first | apply Kd.R_alloc | apply Kd.R_drewN | apply Kd.R_drew)); exact HO312.out) hb)
     have n3_ := Aside0.mk (Kd.R_below (by (with_reducible repeat (first | apply Kd.R_alloc | apply Kd.R_drewN | apply Kd.R_drew)); exact HO317.out) hb)
     have n4_ := Aside0.mk (Kd.R_below (by (with_reducible repeat (first | apply Kd.R_alloc | apply Kd.R_drewN | apply Kd.R_drew)); exact HO326.out) hb)
     have n5_ := Aside0.mk (Kd.R_below (by (with_reducible repeat (first | apply Kd.R_alloc | apply Kd.R_drewN | apply Kd.R_drew)); exact HO331.out) hb)
     have n6_ := Aside0.mk (Kd.R_below (by (with_reducible repeat (first | apply Kd.R_alloc | apply Kd.R_drewN | apply Kd.R_drew)); exact HO338.out) hb)
     have n7_ := Aside0.mk (Kd.R_below (by (with_reducible repeat (first | apply Kd.R_alloc | apply Kd.R_drewN | apply Kd.R_drew)); exact HO343.out) hb)
     have n8_ := Aside0.mk (Kd.R_below (by (with_reducible repeat (first | apply Kd.R_alloc | apply Kd.R_drewN | apply Kd.R_drew)); exact HO349.out) hb)
     have n9_ := Aside0.mk (Kd.R_below (by (with_reducible repeat (first | apply Kd.R_alloc | apply Kd.R_drewN | apply Kd.R_drew)); exact HO354.out) hb)
     have n10_ := Aside0.mk (blk_below (g := gb292) (o := .cells #[.int .i64 a0_0, .int .i64 a0_1, .int .i64 a0_2, .slice A0_3 l0_3.length c0_3, .bool a0_4, .string a0_5, .slice A0_6 l0_6.length c0_6] 37 (0, 0)) (by (with_reducible repeat (first | apply bN | apply bD | apply bA)); exact BK292.out) hb)
     have n11_ := Aside0.mk (blk_below (g := gb293) (o := .cells #[.int .i64 a1_0, .int .i64 a1_1] 23 (0, 0)) (by (with_reducible repeat (first | apply bN | apply bD | apply bA)); exact BK293.out) hb)
     have n12_ := Aside0.mk (blk_below (g := gb294) (o := .cells #[.int .i64 a2_0, .int .i64 a2_1, .bool a2_2, .int .i64 a2_3, .int .i64 a2_4, .string a2_5] 39 (0, 0)) (by (with_reducible repeat (first | apply bN | apply bD | apply bA)); exact BK294.out) hb)
     have n13_ := Aside0.mk (blk_below (g := gb295) (o := .cells #[.int .i64 a3_0, .int .i64 a3_1, .bool a3_2, .int .i64 a3_3, .int .i64 a3_4, .string a3_5] 39 (0, 0)) (by (with_reducible repeat (first | apply bN | apply bD | apply bA)); exact BK295.out) hb)
     have n14_ := Aside0.mk (blk_below (g := gb332) (o := .cells #[.int .i64 t321, .int .i64 t322, .int .i64 t323, .slice Ao40 t324.length co40, .bool t327, .string t328, .slice Ao41 t329.length co41] 37 (0, 0)) (by (with_reducible repeat (first | apply bN | apply bD | apply bA)); exact BK332.out) hb)
     have n15_ := Aside0.mk (below_step (by repeat (first | (with_reducible first | exact HB.out | apply below_alloc | apply pw_below_drewN | apply below_drew1 | refine below_set ?_ (Aside0.out ‹_›)) | exact HB.out)) hb)
     clear HO301
     clear HO306
     clear HO312
     clear HO317
     clear HO326
     clear HO331
     clear HO338
     clear HO343
     clear HO349
     clear HO354
     clear BK292
     clear BK293
     clear BK294
     clear BK295
     clear BK332
     clear HB
     have HO301 := n0_
     have HO306 := n1_
     have HO312 := n2_
     have HO317 := n3_
     have HO326 := n4_
     have HO331 := n5_
     have HO338 := n6_
     have HO343 := n7_
     have HO349 := n8_
     have HO354 := n9_
     have BK292 := n10_
     have BK293 := n11_
     have BK294 := n12_
     have BK295 := n13_
     have BK332 := n14_
     have HB := n15_
     clear n0_ n1_ n2_ n3_ n4_ n5_ n6_ n7_ n8_ n9_ n10_ n11_ n12_ n13_ n14_ n15_
     (try clear hb)
     (try clear hb2)
     (try clear hk)
     (try clear hi)
     refine hK.out _ _ ⟨(blk_cell BK332.out 0).trans rfl, (blk_cell BK332.out 1).trans rfl, (blk_cell BK332.out 2).trans rfl, (blk_cell BK332.out 3).trans rfl, (blk_cell BK332.out 4).trans rfl, (blk_cell BK332.out 5).trans rfl, (blk_cell BK332.out 6).trans rfl, (blk_cell BK295.out 0).trans rfl, (blk_cell BK295.out 1).trans rfl, (blk_cell BK295.out 2).trans rfl, (blk_cell BK295.out 3).trans rfl, (blk_cell BK295.out 4).trans rfl, (blk_cell BK295.out 5).trans rfl, (blk_cell BK292.out 0).trans rfl, (blk_cell BK292.out 1).trans rfl, (blk_cell BK292.out 2).trans rfl, (blk_cell BK292.out 3).trans rfl, (blk_cell BK292.out 4).trans rfl, (blk_cell BK292.out 5).trans rfl, (blk_cell BK292.out 6).trans rfl⟩ (fun hHeld => ?_)
     clear hK K
     refine norm_ (a' := ?_) ?_ ?_
     rotate_left
     ·show Act.put _ (some 38) _ = _
      simp only [Act.put, List.setIfInBounds_toArray, List.set_cons_zero, List.set_cons_succ, i64_w, i32_w]
      rfl
     refine pure_ (i := 7) (N := some 39) (v := ?_) (a' := ?_) #[true, true, true, true, true, true, true, true, false, false, false, false, false, false, false, false, false] rfl rfl (any_of HT_.out (by kernel_rfl)) (fun _ _ _ h => h) (Or.inl ⟨by rfl, ?_⟩) ?_ ?_
     rotate_left
     ·intro w'
      go_simp
      with_reducible rfl
     rotate_left
     ·simp only [Act.put, List.setIfInBounds_toArray, List.set_cons_zero, List.set_cons_succ, i64_w, i32_w]
      rfl
     refine pure_ (i := 8) (N := some 40) (v := ?_) (a' := ?_) #[true, true, true, true, true, true, true, true, true, false, false, false, false, false, false, false, false] rfl rfl (any_of HT_.out (by kernel_rfl)) (fun _ _ _ h => h) (Or.inl ⟨by rfl, ?_⟩) ?_ ?_
     rotate_left
     ·intro w'
      go_simp
      with_reducible rfl
     rotate_left
     ·simp only [Act.put, List.setIfInBounds_toArray, List.set_cons_zero, List.set_cons_succ, i64_w, i32_w]
      rfl
     refine pure_ (i := 10) (N := some 42) (v := ?_) (a' := ?_) #[true, true, true, true, true, true, true, true, true, false, true, false, false, false, false, false, false] rfl rfl (any_of HT_.out (by kernel_rfl)) (fun _ _ _ h => h) (Or.inl ⟨by rfl, ?_⟩) ?_ ?_
     rotate_left
     ·intro w'
      go_simp
      with_reducible rfl
     rotate_left
     ·simp only [Act.put, List.setIfInBounds_toArray, List.set_cons_zero, List.set_cons_succ, i64_w, i32_w]
      rfl
     refine pure_ (i := 13) (N := some 45) (v := ?_) (a' := ?_) #[true, true, true, true, true, true, true, true, true, false, true, false, false, true, false, false, false] rfl rfl (any_of HT_.out (by kernel_rfl)) (fun _ _ _ h => h) (Or.inl ⟨by rfl, ?_⟩) ?_ ?_
     rotate_left
     ·intro w'
      go_simp
      with_reducible rfl
     rotate_left
     ·simp only [Act.put, List.setIfInBounds_toArray, List.set_cons_zero, List.set_cons_succ, i64_w, i32_w]
      rfl
     refine take_ (i := 9) (N := some 41) (v := ?_) (a' := ?_) #[true, true, true, true, true, true, true, true, true, true, true, false, false, true, false, false, false] rfl rfl (take_ofW HT_.out HW_.out (by kernel_rfl)) (fun _ _ _ h => h) (Or.inl ⟨by rfl, ?_⟩) hHeld ?_ ?_
     rotate_left
     ·rintro w' ⟨s0, s1, s2, s3, s4, s5, s6, s7, s8, s9, s10, s11, s12, s13, s14, s15, s16, s17, s18, s19⟩
      go_simp
      with_reducible rfl
     rotate_left
     ·simp only [Act.put, List.setIfInBounds_toArray, List.set_cons_zero, List.set_cons_succ, i64_w, i32_w]
      rfl
     refine take_ (i := 12) (N := some 44) (v := ?_) (a' := ?_) #[true, true, true, true, true, true, true, true, true, true, true, false, true, true, false, false, false] rfl rfl (take_ofW HT_.out HW_.out (by kernel_rfl)) (fun _ _ _ h => h) (Or.inl ⟨by rfl, ?_⟩) hHeld ?_ ?_
     rotate_left
     ·rintro w' ⟨s0, s1, s2, s3, s4, s5, s6, s7, s8, s9, s10, s11, s12, s13, s14, s15, s16, s17, s18, s19⟩
      go_simp
      with_reducible rfl
     rotate_left
     ·simp only [Act.put, List.setIfInBounds_toArray, List.set_cons_zero, List.set_cons_succ, i64_w, i32_w]
      rfl
     refine one_ (i := 11) (N := some 43) #[true, true, true, true, true, true, true, true, true, true, true, true, true, true, false, false, false] rfl rfl (one_of HT_.out (by kernel_rfl)) (by decide) (fun K hK => ?_)
     refine goes_ Try.func22 (by kernel_rfl) rfl #[.agg #[.int .i64 t321, .int .i64 t322, .int .i64 t323, .slice Ao40 t324.length co40, .bool t327, .string t328, .slice Ao41 t329.length co41], .int .i64 a4] (by rfl) rfl rfl (by (try simp only [List.map_toArray, List.map_cons, List.map_nil]); first | done | rfl | (simp only [List.length_drop, List.length_take]; rfl)) ?_
     with_reducible refine (lead_Enough.calls t321 t322 t323 _ _ t324 t327 t328 _ _ t329 a4 t356 _ ?side1 ?side2 ?side3 ?side4 A46.out).mono ?_
     (case side1 => repeat (first | exact (Kd.R_reads' HO326.out).2.2 | (with_reducible refine Kd.C_alloc ?_ _) | (with_reducible refine Kd.C_drewN ?_ _) | (with_reducible refine Kd.C_drew ?_)))
     (case side2 => exact (Kd.R_reads' HO326.out).2.1)
     (case side3 => repeat (first | exact (Kd.R_reads' HO331.out).2.2 | (with_reducible refine Kd.C_alloc ?_ _) | (with_reducible refine Kd.C_drewN ?_ _) | (with_reducible refine Kd.C_drew ?_)))
     (case side4 => exact (Kd.R_reads' HO331.out).2.1)
     rintro e w57 ⟨rfl, hb⟩
     refine ⟨_, rfl, ?_⟩
     have n0_ := Aside0.mk (Kd.R_below (by (with_reducible repeat (first | apply Kd.R_alloc | apply Kd.R_drewN | apply Kd.R_drew)); exact HO301.out) hb)
     have n1_ := Aside0.mk (Kd.R_below (by (with_reducible repeat (first | apply Kd.R_alloc | apply Kd.R_drewN | apply Kd.R_drew)); exact HO306.out) hb)
     have n2_ := Aside0.mk (Kd.R_below (by (with_reducible repeat (first | apply Kd.R_alloc | apply Kd.R_drewN | apply Kd.R_drew)); exact HO312.out) hb)
     have n3_ := Aside0.mk (Kd.R_below (by (with_reducible repeat (first | apply Kd.R_alloc | apply Kd.R_drewN | apply Kd.R_drew)); exact HO317.out) hb)
     have n4_ := Aside0.mk (Kd.R_below (by (with_reducible repeat (first | apply Kd.R_alloc | apply Kd.R_drewN | apply Kd.R_drew)); exact HO326.out) hb)
     have n5_ := Aside0.mk (Kd.R_below (by (with_reducible repeat (first | apply Kd.R_alloc | apply Kd.R_drewN | apply Kd.R_drew)); exact HO331.out) hb)
     have n6_ := Aside0.mk (Kd.R_below (by (with_reducible repeat (first | apply Kd.R_alloc | apply Kd.R_drewN | apply Kd.R_drew)); exact HO338.out) hb)
     have n7_ := Aside0.mk (Kd.R_below (by (with_reducible repeat (first | apply Kd.R_alloc | apply Kd.R_drewN | apply Kd.R_drew)); exact HO343.out) hb)
     have n8_ := Aside0.mk (Kd.R_below (by (with_reducible repeat (first | apply Kd.R_alloc | apply Kd.R_drewN | apply Kd.R_drew)); exact HO349.out) hb)
     have n9_ := Aside0.mk (Kd.R_below (by (with_reducible repeat (first | apply Kd.R_alloc | apply Kd.R_drewN | apply Kd.R_drew)); exact HO354.out) hb)
     have n10_ := Aside0.mk (blk_below (g := gb292) (o := .cells #[.int .i64 a0_0, .int .i64 a0_1, .int .i64 a0_2, .slice A0_3 l0_3.length c0_3, .bool a0_4, .string a0_5, .slice A0_6 l0_6.length c0_6] 37 (0, 0)) (by (with_reducible repeat (first | apply bN | apply bD | apply bA)); exact BK292.out) hb)
     have n11_ := Aside0.mk (blk_below (g := gb293) (o := .cells #[.int .i64 a1_0, .int .i64 a1_1] 23 (0, 0)) (by (with_reducible repeat (first | apply bN | apply bD | apply bA)); exact BK293.out) hb)
     have n12_ := Aside0.mk (blk_below (g := gb294) (o := .cells #[.int .i64 a2_0, .int .i64 a2_1, .bool a2_2, .int .i64 a2_3, .int .i64 a2_4, .string a2_5] 39 (0, 0)) (by (with_reducible repeat (first | apply bN | apply bD | apply bA)); exact BK294.out) hb)
     have n13_ := Aside0.mk (blk_below (g := gb295) (o := .cells #[.int .i64 a3_0, .int .i64 a3_1, .bool a3_2, .int .i64 a3_3, .int .i64 a3_4, .string a3_5] 39 (0, 0)) (by (with_reducible repeat (first | apply bN | apply bD | apply bA)); exact BK295.out) hb)
     have n14_ := Aside0.mk (blk_below (g := gb332) (o := .cells #[.int .i64 t321, .int .i64 t322, .int .i64 t323, .slice Ao40 t324.length co40, .bool t327, .string t328, .slice Ao41 t329.length co41] 37 (0, 0)) (by (with_reducible repeat (first | apply bN | apply bD | apply bA)); exact BK332.out) hb)
     have n15_ := Aside0.mk (below_step (by repeat (first | (with_reducible first | exact HB.out | apply below_alloc | apply pw_below_drewN | apply below_drew1 | refine below_set ?_ (Aside0.out ‹_›)) | exact HB.out)) hb)
     clear HO301
     clear HO306
     clear HO312
     clear HO317
     clear HO326
     clear HO331
     clear HO338
     clear HO343
     clear HO349
     clear HO354
     clear BK292
     clear BK293
     clear BK294
     clear BK295
     clear BK332
     clear HB
     have HO301 := n0_
     have HO306 := n1_
     have HO312 := n2_
     have HO317 := n3_
     have HO326 := n4_
     have HO331 := n5_
     have HO338 := n6_
     have HO343 := n7_
     have HO349 := n8_
     have HO354 := n9_
     have BK292 := n10_
     have BK293 := n11_
     have BK294 := n12_
     have BK295 := n13_
     have BK332 := n14_
     have HB := n15_
     clear n0_ n1_ n2_ n3_ n4_ n5_ n6_ n7_ n8_ n9_ n10_ n11_ n12_ n13_ n14_ n15_
     (try clear hb)
     (try clear hb2)
     (try clear hk)
     (try clear hi)
     refine hK.out _ _ ⟨(blk_cell BK332.out 0).trans rfl, (blk_cell BK332.out 1).trans rfl, (blk_cell BK332.out 2).trans rfl, (blk_cell BK332.out 3).trans rfl, (blk_cell BK332.out 4).trans rfl, (blk_cell BK332.out 5).trans rfl, (blk_cell BK332.out 6).trans rfl, (blk_cell BK295.out 0).trans rfl, (blk_cell BK295.out 1).trans rfl, (blk_cell BK295.out 2).trans rfl, (blk_cell BK295.out 3).trans rfl, (blk_cell BK295.out 4).trans rfl, (blk_cell BK295.out 5).trans rfl, (blk_cell BK292.out 0).trans rfl, (blk_cell BK292.out 1).trans rfl, (blk_cell BK292.out 2).trans rfl, (blk_cell BK292.out 3).trans rfl, (blk_cell BK292.out 4).trans rfl, (blk_cell BK292.out 5).trans rfl, (blk_cell BK292.out 6).trans rfl⟩ (fun hHeld => ?_)
     clear hK K
     refine norm_ (a' := ?_) ?_ ?_
     rotate_left
     ·show Act.put _ (some 43) _ = _
      simp only [Act.put, List.setIfInBounds_toArray, List.set_cons_zero, List.set_cons_succ, i64_w, i32_w]
      rfl
     refine one_ (i := 14) (N := some 46) #[true, true, true, true, true, true, true, true, true, true, true, true, true, true, true, false, false] rfl rfl (one_of HT_.out (by kernel_rfl)) (by decide) (fun K hK => ?_)
     refine goes_ Try.func23 (by kernel_rfl) rfl #[.agg #[.int .i64 a0_0, .int .i64 a0_1, .int .i64 a0_2, .slice A0_3 l0_3.length c0_3, .bool a0_4, .string a0_5, .slice A0_6 l0_6.length c0_6], .int .i64 a4] (by rfl) rfl rfl (by (try simp only [List.map_toArray, List.map_cons, List.map_nil]); first | done | rfl | (simp only [List.length_drop, List.length_take]; rfl)) ?_
     with_reducible refine (reefref16_Enough.calls a0_0 a0_1 a0_2 _ _ l0_3 a0_4 a0_5 _ _ l0_6 a4 t357 _ ?side1 ?side2 ?side3 ?side4 A47.out).mono ?_
     (case side1 => repeat (first | exact (Kd.C_below HR0_3.out HB.out) | (with_reducible refine Kd.C_alloc ?_ _) | (with_reducible refine Kd.C_drewN ?_ _) | (with_reducible refine Kd.C_drew ?_)))
     (case side2 => exact HC0_3.out)
     (case side3 => repeat (first | exact (Kd.C_below HR0_6.out HB.out) | (with_reducible refine Kd.C_alloc ?_ _) | (with_reducible refine Kd.C_drewN ?_ _) | (with_reducible refine Kd.C_drew ?_)))
     (case side4 => exact HC0_6.out)
     rintro e w58 ⟨rfl, hb⟩
     refine ⟨_, rfl, ?_⟩
     have n0_ := Aside0.mk (Kd.R_below (by (with_reducible repeat (first | apply Kd.R_alloc | apply Kd.R_drewN | apply Kd.R_drew)); exact HO301.out) hb)
     have n1_ := Aside0.mk (Kd.R_below (by (with_reducible repeat (first | apply Kd.R_alloc | apply Kd.R_drewN | apply Kd.R_drew)); exact HO306.out) hb)
     have n2_ := Aside0.mk (Kd.R_below (by (with_reducible repeat (first | apply Kd.R_alloc | apply Kd.R_drewN | apply Kd.R_drew)); exact HO312.out) hb)
     have n3_ := Aside0.mk (Kd.R_below (by (with_reducible repeat (first | apply Kd.R_alloc | apply Kd.R_drewN | apply Kd.R_drew)); exact HO317.out) hb)
     have n4_ := Aside0.mk (Kd.R_below (by (with_reducible repeat (first | apply Kd.R_alloc | apply Kd.R_drewN | apply Kd.R_drew)); exact HO326.out) hb)
     have n5_ := Aside0.mk (Kd.R_below (by (with_reducible repeat (first | apply Kd.R_alloc | apply Kd.R_drewN | apply Kd.R_drew)); exact HO331.out) hb)
     have n6_ := Aside0.mk (Kd.R_below (by (with_reducible repeat (first | apply Kd.R_alloc | apply Kd.R_drewN | apply Kd.R_drew)); exact HO338.out) hb)
     have n7_ := Aside0.mk (Kd.R_below (by (with_reducible repeat (first | apply Kd.R_alloc | apply Kd.R_drewN | apply Kd.R_drew)); exact HO343.out) hb)
     have n8_ := Aside0.mk (Kd.R_below (by (with_reducible repeat (first | apply Kd.R_alloc | apply Kd.R_drewN | apply Kd.R_drew)); exact HO349.out) hb)
     have n9_ := Aside0.mk (Kd.R_below (by (with_reducible repeat (first | apply Kd.R_alloc | apply Kd.R_drewN | apply Kd.R_drew)); exact HO354.out) hb)
     have n10_ := Aside0.mk (blk_below (g := gb292) (o := .cells #[.int .i64 a0_0, .int .i64 a0_1, .int .i64 a0_2, .slice A0_3 l0_3.length c0_3, .bool a0_4, .string a0_5, .slice A0_6 l0_6.length c0_6] 37 (0, 0)) (by (with_reducible repeat (first | apply bN | apply bD | apply bA)); exact BK292.out) hb)
     have n11_ := Aside0.mk (blk_below (g := gb293) (o := .cells #[.int .i64 a1_0, .int .i64 a1_1] 23 (0, 0)) (by (with_reducible repeat (first | apply bN | apply bD | apply bA)); exact BK293.out) hb)
     have n12_ := Aside0.mk (blk_below (g := gb294) (o := .cells #[.int .i64 a2_0, .int .i64 a2_1, .bool a2_2, .int .i64 a2_3, .int .i64 a2_4, .string a2_5] 39 (0, 0)) (by (with_reducible repeat (first | apply bN | apply bD | apply bA)); exact BK294.out) hb)
     have n13_ := Aside0.mk (blk_below (g := gb295) (o := .cells #[.int .i64 a3_0, .int .i64 a3_1, .bool a3_2, .int .i64 a3_3, .int .i64 a3_4, .string a3_5] 39 (0, 0)) (by (with_reducible repeat (first | apply bN | apply bD | apply bA)); exact BK295.out) hb)
     have n14_ := Aside0.mk (blk_below (g := gb332) (o := .cells #[.int .i64 t321, .int .i64 t322, .int .i64 t323, .slice Ao40 t324.length co40, .bool t327, .string t328, .slice Ao41 t329.length co41] 37 (0, 0)) (by (with_reducible repeat (first | apply bN | apply bD | apply bA)); exact BK332.out) hb)
     have n15_ := Aside0.mk (below_step (by repeat (first | (with_reducible first | exact HB.out | apply below_alloc | apply pw_below_drewN | apply below_drew1 | refine below_set ?_ (Aside0.out ‹_›)) | exact HB.out)) hb)
     clear HO301
     clear HO306
     clear HO312
     clear HO317
     clear HO326
     clear HO331
     clear HO338
     clear HO343
     clear HO349
     clear HO354
     clear BK292
     clear BK293
     clear BK294
     clear BK295
     clear BK332
     clear HB
     have HO301 := n0_
     have HO306 := n1_
     have HO312 := n2_
     have HO317 := n3_
     have HO326 := n4_
     have HO331 := n5_
     have HO338 := n6_
     have HO343 := n7_
     have HO349 := n8_
     have HO354 := n9_
     have BK292 := n10_
     have BK293 := n11_
     have BK294 := n12_
     have BK295 := n13_
     have BK332 := n14_
     have HB := n15_
     clear n0_ n1_ n2_ n3_ n4_ n5_ n6_ n7_ n8_ n9_ n10_ n11_ n12_ n13_ n14_ n15_
     (try clear hb)
     (try clear hb2)
     (try clear hk)
     (try clear hi)
     refine hK.out _ _ ⟨(blk_cell BK332.out 0).trans rfl, (blk_cell BK332.out 1).trans rfl, (blk_cell BK332.out 2).trans rfl, (blk_cell BK332.out 3).trans rfl, (blk_cell BK332.out 4).trans rfl, (blk_cell BK332.out 5).trans rfl, (blk_cell BK332.out 6).trans rfl, (blk_cell BK295.out 0).trans rfl, (blk_cell BK295.out 1).trans rfl, (blk_cell BK295.out 2).trans rfl, (blk_cell BK295.out 3).trans rfl, (blk_cell BK295.out 4).trans rfl, (blk_cell BK295.out 5).trans rfl, (blk_cell BK292.out 0).trans rfl, (blk_cell BK292.out 1).trans rfl, (blk_cell BK292.out 2).trans rfl, (blk_cell BK292.out 3).trans rfl, (blk_cell BK292.out 4).trans rfl, (blk_cell BK292.out 5).trans rfl, (blk_cell BK292.out 6).trans rfl⟩ (fun hHeld => ?_)
     clear hK K
     refine norm_ (a' := ?_) ?_ ?_
     rotate_left
     ·show Act.put _ (some 46) _ = _
      simp only [Act.put, List.setIfInBounds_toArray, List.set_cons_zero, List.set_cons_succ, i64_w, i32_w]
      rfl
     refine pure_ (i := 15) (N := some 47) (v := ?_) (a' := ?_) #[true, true, true, true, true, true, true, true, true, true, true, true, true, true, true, true, false] rfl rfl (any_of HT_.out (by kernel_rfl)) (fun _ _ _ h => h) (Or.inl ⟨by rfl, ?_⟩) ?_ ?_
     rotate_left
     ·intro w'
      go_simp
      with_reducible rfl
     rotate_left
     ·simp only [Act.put, List.setIfInBounds_toArray, List.set_cons_zero, List.set_cons_succ, i64_w, i32_w]
      rfl
     refine pure_ (i := 16) (N := some 48) (v := ?_) (a' := ?_) #[true, true, true, true, true, true, true, true, true, true, true, true, true, true, true, true, true] rfl rfl (any_of HT_.out (by kernel_rfl)) (fun _ _ _ h => h) (Or.inl ⟨by rfl, ?_⟩) ?_ ?_
     rotate_left
     ·intro w'
      go_simp
      with_reducible rfl
     rotate_left
     ·simp only [Act.put, List.setIfInBounds_toArray, List.set_cons_zero, List.set_cons_succ, i64_w, i32_w]
      rfl
     refine done_ (done_of HT_.out (by kernel_rfl)) ?_
     try go_wp2
     go_meet
     case rel => exact ⟨_, ((t356 != t357)), (by first | rfl | (simp; done) | (simp [*]; done)), H', ⟨by first | omega | exact Nat.le_refl _⟩, ⟨by (with_reducible repeat (first | apply Kd.R_alloc | apply Kd.R_drewN | apply Kd.R_drew)); exact Kd.R_mono HO326.out (fun _ hk => ⟨hk.1.1.2.2.1, hk.1.1.2.2.2⟩)⟩, ⟨by (with_reducible repeat (first | apply Kd.R_alloc | apply Kd.R_drewN | apply Kd.R_drew)); exact Kd.R_mono HO331.out (fun _ hk => trivial)⟩, ⟨by (with_reducible repeat (first | apply bN | apply bD | apply bA)); exact BK292.out⟩, ⟨by (with_reducible repeat (first | apply bN | apply bD | apply bA)); exact BK293.out⟩, ⟨by (with_reducible repeat (first | apply bN | apply bD | apply bA)); exact BK294.out⟩, ⟨by (with_reducible repeat (first | apply bN | apply bD | apply bA)); exact BK295.out⟩, ⟨by (with_reducible repeat (first | apply bN | apply bD | apply bA)); exact BK332.out⟩, ⟨by repeat (first | (with_reducible first | exact HB.out | apply below_alloc | apply pw_below_drewN | apply below_drew1 | refine below_set ?_ (Aside0.out ‹_›)) | exact HB.out)⟩⟩
    ·replace c45 := Bool.eq_false_iff.mpr c45
     subst c45
     have H1 : (none) = some r := by rw [if_neg (show ¬ (false = true) by decide)] at H; exact H
     clear H
     have H := H1
     clear H1
     exact absurd H (by simp)
   case rest =>
    clear HC14
    try clear c1
    try clear c2
    try clear p2
    try clear c3
    try clear c4
    try clear c17
    try clear c18
    try clear c19
    try clear c20
    try clear c21
    try clear c22
    try clear c23
    try clear c27
    try clear c28
    try clear c29
    try clear c35
    try clear c36
    try clear c37
    try clear c38
    try clear c45
    try clear hcz30_0 hcz30_1 hcz30_2 hcz30_3 hcz30_4 hcz30_5 hcz30_6
    try clear hcz32_0 hcz32_1 hcz32_2 hcz32_3 hcz32_4 hcz32_5 hcz32_6
    try clear hcz39_0 hcz39_1 hcz39_2 hcz39_3 hcz39_4 hcz39_5 hcz39_6
    try clear hfz30_0 hfz30_1 hfz30_2 hfz30_3 hfz30_4 hfz30_5 hfz30_6
    try clear hfz32_0 hfz32_1 hfz32_2 hfz32_3 hfz32_4 hfz32_5 hfz32_6
    try clear hfz39_0 hfz39_1 hfz39_2 hfz39_3 hfz39_4 hfz39_5 hfz39_6
    obtain ⟨kq, x48_13, rfl, HA, HJ13, HO_333003, HO_333006, BK292, BK293, BK294, BK295, BK332, HB⟩ := hcut
    cases kq with
    | zero => exact absurd HA.out (by simp [reeflaw16_LeadHears.j0])
    | succ kj13 =>
     have H := HA.out
     clear HA
     simp only [reeflaw16_LeadHears.j0] at H
     by_cases c59 : x48_13 = true
     ·subst c59
      have H1 : (none) = some r := by rw [if_pos rfl] at H; exact H
      clear H
      have H := H1
      clear H1
      exact absurd H (by simp)
     ·replace c59 := Bool.eq_false_iff.mpr c59
      subst c59
      have H1 : ((lead_Pick.f t321 t322 t323 t324 t327 t328 t329 a5).bind fun bt358 => ((reefref16_Pick.f kj13 a0_0 a0_1 a0_2 l0_3 a0_4 a0_5 l0_6 a5).bind fun bt360 => (if bt358.1.toList = bt360.1.toList then (if (bt358.2 == bt360.2) = true then ((reefref16_Same.f kj13 t321 t322 t323 t324 t327 t328 t329 a0_0 a0_1 a0_2 l0_3 a0_4 a0_5 l0_6).bind fun t362 => (if t362 = true then ((reeflaw16_awake.f kj13).bind fun t363 => (some t363)) else (none))) else (none)) else (none)))) = some r := by rw [if_neg (show ¬ (false = true) by decide)] at H; exact H
      clear H
      have H := H1
      clear H1
      replace H := Option.bind_eq_some_iff.mp H
      obtain ⟨⟨t358, t359⟩, A600, H⟩ := H
      replace H : ((reefref16_Pick.f kj13 a0_0 a0_1 a0_2 l0_3 a0_4 a0_5 l0_6 a5).bind fun bt360 => (if t358.toList = bt360.1.toList then (if (t359 == bt360.2) = true then ((reefref16_Same.f kj13 t321 t322 t323 t324 t327 t328 t329 a0_0 a0_1 a0_2 l0_3 a0_4 a0_5 l0_6).bind fun t362 => (if t362 = true then ((reeflaw16_awake.f kj13).bind fun t363 => (some t363)) else (none))) else (none)) else (none))) = some r := H
      have A60 := Aside0.mk A600
      clear A600
      replace H := Option.bind_eq_some_iff.mp H
      obtain ⟨⟨t360, t361⟩, A610, H⟩ := H
      replace H : (if t358.toList = t360.toList then (if (t359 == t361) = true then ((reefref16_Same.f kj13 t321 t322 t323 t324 t327 t328 t329 a0_0 a0_1 a0_2 l0_3 a0_4 a0_5 l0_6).bind fun t362 => (if t362 = true then ((reeflaw16_awake.f kj13).bind fun t363 => (some t363)) else (none))) else (none)) else (none)) = some r := H
      have A61 := Aside0.mk A610
      clear A610
      by_cases c62 : t358.toList = t360.toList
      ·rw [if_pos c62] at H
       have c62b0 : (t358.toList == t360.toList) = true := beq_iff_eq.mpr c62
       have c62b1 : (t358.toList != t360.toList) = false := bne_eq_false_iff_eq.mpr c62
       clear c62
       by_cases c63 : (t359 == t361) = true
       ·rw [if_pos c63] at H
        have c63b0 : (t359 == t361) = true := c63
        (try (have c63b1 : decide (t359 = t361) = true := by simpa using c63))
        (try (have c63b2 : (t359 == t361) = true := by simpa using c63))
        clear c63
        replace H := Option.bind_eq_some_iff.mp H
        obtain ⟨t362, A640, H⟩ := H
        replace H : (if t362 = true then ((reeflaw16_awake.f kj13).bind fun t363 => (some t363)) else (none)) = some r := H
        have A64 := Aside0.mk A640
        clear A640
        by_cases c65 : t362 = true
        ·subst c65
         have H1 : ((reeflaw16_awake.f kj13).bind fun t363 => (some t363)) = some r := by rw [if_pos rfl] at H; exact H
         clear H
         have H := H1
         clear H1
         replace H := Option.bind_eq_some_iff.mp H
         obtain ⟨t363, A660, H⟩ := H
         replace H : (some t363) = some r := H
         have A66 := Aside0.mk A660
         clear A660
         obtain rfl := Option.some.inj H
         have hnb67 := NB332_292.out
         have hnc67 := NB292_332.out
         have hnb68 := NB332_293.out
         have hnc68 := NB293_332.out
         have hnb69 := NB332_294.out
         have hnc69 := NB294_332.out
         have hnb70 := NB332_295.out
         have hnc70 := NB295_332.out
         obtain ⟨hcz71_0, hcz71_1, hcz71_2, hcz71_3, hcz71_4, hcz71_5, hcz71_6⟩ := blkC7 wc gb332 (.int .i64 t321) (.int .i64 t322) (.int .i64 t323) (.slice Ao40 t324.length co40) (.bool t327) (.string t328) (.slice Ao41 t329.length co41) BK332.out
         obtain ⟨hfz71_0, hfz71_1, hfz71_2, hfz71_3, hfz71_4, hfz71_5, hfz71_6⟩ := blkF7 BK332.out
         go_wp2_with (first | ((with_reducible refine gate_callee (f := 24) rfl ?_); refine goesL_ (some 52) rfl rfl Try.func24 (by kernel_rfl) rfl #[.agg #[.int .i64 t321, .int .i64 t322, .int .i64 t323, .slice Ao40 t324.length co40, .bool t327, .string t328, .slice Ao41 t329.length co41], .int .i64 a5] rfl (by (try simp only [List.map_toArray, List.map_cons, List.map_nil]); first | done | rfl | (simp only [List.length_drop, List.length_take]; rfl)) ?_; (with_reducible refine (lead_Pick.calls t321 t322 t323 _ _ t324 t327 t328 _ _ t329 a5 t358 t359 _ ?side1 ?side2 ?side3 ?side4 A60.out).mono ?_); (case side1 => repeat (first | exact (Kd.R_reads' HO_333003.out).2.2 | (with_reducible refine Kd.C_alloc ?_ _) | (with_reducible refine Kd.C_drewN ?_ _) | (with_reducible refine Kd.C_drew ?_))); (case side2 => exact (Kd.R_reads' HO_333003.out).2.1); (case side3 => repeat (first | exact (Kd.R_reads' HO_333006.out).2.2 | (with_reducible refine Kd.C_alloc ?_ _) | (with_reducible refine Kd.C_drewN ?_ _) | (with_reducible refine Kd.C_drew ?_))); (case side4 => exact (Kd.R_reads' HO_333006.out).2.1); rintro e w72 ⟨rfl, hb⟩; refine ⟨_, rfl, ?_⟩; have n0_ := Aside0.mk (Kd.R_below (by (with_reducible repeat (first | apply Kd.R_alloc | apply Kd.R_drewN | apply Kd.R_drew)); exact HO_333003.out) hb); have n1_ := Aside0.mk (Kd.R_below (by (with_reducible repeat (first | apply Kd.R_alloc | apply Kd.R_drewN | apply Kd.R_drew)); exact HO_333006.out) hb); have n2_ := Aside0.mk (blk_below (g := gb292) (o := .cells #[.int .i64 a0_0, .int .i64 a0_1, .int .i64 a0_2, .slice A0_3 l0_3.length c0_3, .bool a0_4, .string a0_5, .slice A0_6 l0_6.length c0_6] 37 (0, 0)) (by (with_reducible repeat (first | apply bN | apply bD | apply bA)); exact BK292.out) hb); have n3_ := Aside0.mk (blk_below (g := gb293) (o := .cells #[.int .i64 a1_0, .int .i64 a1_1] 23 (0, 0)) (by (with_reducible repeat (first | apply bN | apply bD | apply bA)); exact BK293.out) hb); have n4_ := Aside0.mk (blk_below (g := gb294) (o := .cells #[.int .i64 a2_0, .int .i64 a2_1, .bool a2_2, .int .i64 a2_3, .int .i64 a2_4, .string a2_5] 39 (0, 0)) (by (with_reducible repeat (first | apply bN | apply bD | apply bA)); exact BK294.out) hb); have n5_ := Aside0.mk (blk_below (g := gb295) (o := .cells #[.int .i64 a3_0, .int .i64 a3_1, .bool a3_2, .int .i64 a3_3, .int .i64 a3_4, .string a3_5] 39 (0, 0)) (by (with_reducible repeat (first | apply bN | apply bD | apply bA)); exact BK295.out) hb); have n6_ := Aside0.mk (blk_below (g := gb332) (o := .cells #[.int .i64 t321, .int .i64 t322, .int .i64 t323, .slice Ao40 t324.length co40, .bool t327, .string t328, .slice Ao41 t329.length co41] 37 (0, 0)) (by (with_reducible repeat (first | apply bN | apply bD | apply bA)); exact BK332.out) hb); have n7_ := Aside0.mk (below_step (by repeat (first | (with_reducible first | exact HB.out | apply below_alloc | apply pw_below_drewN | apply below_drew1 | refine below_set ?_ (Aside0.out ‹_›)) | exact HB.out)) hb); clear HO_333003; clear HO_333006; clear BK292; clear BK293; clear BK294; clear BK295; clear BK332; clear HB; have HO_333003 := n0_; have HO_333006 := n1_; have BK292 := n2_; have BK293 := n3_; have BK294 := n4_; have BK295 := n5_; have BK332 := n6_; have HB := n7_; clear n0_ n1_ n2_ n3_ n4_ n5_ n6_ n7_; (try clear hb); (try clear hb2); (try clear hk); (try clear hi); have hnb73 := NB292_293.out; have hnc73 := NB293_292.out; have hnb74 := NB292_294.out; have hnc74 := NB294_292.out; have hnb75 := NB292_295.out; have hnc75 := NB295_292.out; obtain ⟨hcz76_0, hcz76_1, hcz76_2, hcz76_3, hcz76_4, hcz76_5, hcz76_6⟩ := blkC7 w72 gb292 (.int .i64 a0_0) (.int .i64 a0_1) (.int .i64 a0_2) (.slice A0_3 l0_3.length c0_3) (.bool a0_4) (.string a0_5) (.slice A0_6 l0_6.length c0_6) BK292.out; obtain ⟨hfz76_0, hfz76_1, hfz76_2, hfz76_3, hfz76_4, hfz76_5, hfz76_6⟩ := blkF7 BK292.out) | ((with_reducible refine gate_callee (f := 25) rfl ?_); refine goesL_ (some 58) rfl rfl Try.func25 (by kernel_rfl) rfl #[.agg #[.int .i64 a0_0, .int .i64 a0_1, .int .i64 a0_2, .slice A0_3 l0_3.length c0_3, .bool a0_4, .string a0_5, .slice A0_6 l0_6.length c0_6], .int .i64 a5] rfl (by (try simp only [List.map_toArray, List.map_cons, List.map_nil]); first | done | rfl | (simp only [List.length_drop, List.length_take]; rfl)) ?_; (with_reducible refine (reefref16_Pick.calls kj13 a0_0 a0_1 a0_2 _ _ l0_3 a0_4 a0_5 _ _ l0_6 a5 t360 t361 _ ?side1 ?side2 ?side3 ?side4 A61.out).mono ?_); (case side1 => repeat (first | exact (Kd.C_below HR0_3.out HB.out) | (with_reducible refine Kd.C_alloc ?_ _) | (with_reducible refine Kd.C_drewN ?_ _) | (with_reducible refine Kd.C_drew ?_))); (case side2 => exact HC0_3.out); (case side3 => repeat (first | exact (Kd.C_below HR0_6.out HB.out) | (with_reducible refine Kd.C_alloc ?_ _) | (with_reducible refine Kd.C_drewN ?_ _) | (with_reducible refine Kd.C_drew ?_))); (case side4 => exact HC0_6.out); rintro e w77 ⟨rfl, hb⟩; refine ⟨_, rfl, ?_⟩; have n0_ := Aside0.mk (Kd.R_below (by (with_reducible repeat (first | apply Kd.R_alloc | apply Kd.R_drewN | apply Kd.R_drew)); exact HO_333003.out) hb); have n1_ := Aside0.mk (Kd.R_below (by (with_reducible repeat (first | apply Kd.R_alloc | apply Kd.R_drewN | apply Kd.R_drew)); exact HO_333006.out) hb); have n2_ := Aside0.mk (blk_below (g := gb292) (o := .cells #[.int .i64 a0_0, .int .i64 a0_1, .int .i64 a0_2, .slice A0_3 l0_3.length c0_3, .bool a0_4, .string a0_5, .slice A0_6 l0_6.length c0_6] 37 (0, 0)) (by (with_reducible repeat (first | apply bN | apply bD | apply bA)); exact BK292.out) hb); have n3_ := Aside0.mk (blk_below (g := gb293) (o := .cells #[.int .i64 a1_0, .int .i64 a1_1] 23 (0, 0)) (by (with_reducible repeat (first | apply bN | apply bD | apply bA)); exact BK293.out) hb); have n4_ := Aside0.mk (blk_below (g := gb294) (o := .cells #[.int .i64 a2_0, .int .i64 a2_1, .bool a2_2, .int .i64 a2_3, .int .i64 a2_4, .string a2_5] 39 (0, 0)) (by (with_reducible repeat (first | apply bN | apply bD | apply bA)); exact BK294.out) hb); have n5_ := Aside0.mk (blk_below (g := gb295) (o := .cells #[.int .i64 a3_0, .int .i64 a3_1, .bool a3_2, .int .i64 a3_3, .int .i64 a3_4, .string a3_5] 39 (0, 0)) (by (with_reducible repeat (first | apply bN | apply bD | apply bA)); exact BK295.out) hb); have n6_ := Aside0.mk (blk_below (g := gb332) (o := .cells #[.int .i64 t321, .int .i64 t322, .int .i64 t323, .slice Ao40 t324.length co40, .bool t327, .string t328, .slice Ao41 t329.length co41] 37 (0, 0)) (by (with_reducible repeat (first | apply bN | apply bD | apply bA)); exact BK332.out) hb); have n7_ := Aside0.mk (below_step (by repeat (first | (with_reducible first | exact HB.out | apply below_alloc | apply pw_below_drewN | apply below_drew1 | refine below_set ?_ (Aside0.out ‹_›)) | exact HB.out)) hb); clear HO_333003; clear HO_333006; clear BK292; clear BK293; clear BK294; clear BK295; clear BK332; clear HB; have HO_333003 := n0_; have HO_333006 := n1_; have BK292 := n2_; have BK293 := n3_; have BK294 := n4_; have BK295 := n5_; have BK332 := n6_; have HB := n7_; clear n0_ n1_ n2_ n3_ n4_ n5_ n6_ n7_; (try clear hb); (try clear hb2); (try clear hk); (try clear hi); obtain ⟨hcz78_0, hcz78_1, hcz78_2, hcz78_3, hcz78_4, hcz78_5, hcz78_6⟩ := blkC7 w77 gb332 (.int .i64 t321) (.int .i64 t322) (.int .i64 t323) (.slice Ao40 t324.length co40) (.bool t327) (.string t328) (.slice Ao41 t329.length co41) BK332.out; obtain ⟨hfz78_0, hfz78_1, hfz78_2, hfz78_3, hfz78_4, hfz78_5, hfz78_6⟩ := blkF7 BK332.out; obtain ⟨hcz79_0, hcz79_1, hcz79_2, hcz79_3, hcz79_4, hcz79_5, hcz79_6⟩ := blkC7 w77 gb292 (.int .i64 a0_0) (.int .i64 a0_1) (.int .i64 a0_2) (.slice A0_3 l0_3.length c0_3) (.bool a0_4) (.string a0_5) (.slice A0_6 l0_6.length c0_6) BK292.out; obtain ⟨hfz79_0, hfz79_1, hfz79_2, hfz79_3, hfz79_4, hfz79_5, hfz79_6⟩ := blkF7 BK292.out) | (go_at_call 19; (with_reducible refine (reefref16_Same.calls kj13 t321 t322 t323 _ _ t324 t327 t328 _ _ t329 a0_0 a0_1 a0_2 _ _ l0_3 a0_4 a0_5 _ _ l0_6 true _ ?side1 ?side2 ?side3 ?side4 ?side5 ?side6 ?side7 ?side8 A64.out).mono ?_); (case side1 => repeat (first | exact (Kd.R_reads' HO_333003.out).2.2 | (with_reducible refine Kd.C_alloc ?_ _) | (with_reducible refine Kd.C_drewN ?_ _) | (with_reducible refine Kd.C_drew ?_))); (case side2 => exact (Kd.R_reads' HO_333003.out).2.1); (case side3 => repeat (first | exact (Kd.R_reads' HO_333006.out).2.2 | (with_reducible refine Kd.C_alloc ?_ _) | (with_reducible refine Kd.C_drewN ?_ _) | (with_reducible refine Kd.C_drew ?_))); (case side4 => exact (Kd.R_reads' HO_333006.out).2.1); (case side5 => repeat (first | exact (Kd.C_below HR0_3.out HB.out) | (with_reducible refine Kd.C_alloc ?_ _) | (with_reducible refine Kd.C_drewN ?_ _) | (with_reducible refine Kd.C_drew ?_))); (case side6 => exact HC0_3.out); (case side7 => repeat (first | exact (Kd.C_below HR0_6.out HB.out) | (with_reducible refine Kd.C_alloc ?_ _) | (with_reducible refine Kd.C_drewN ?_ _) | (with_reducible refine Kd.C_drew ?_))); (case side8 => exact HC0_6.out); rintro e w80 ⟨rfl, hb⟩; have n0_ := Aside0.mk (Kd.R_below (by (with_reducible repeat (first | apply Kd.R_alloc | apply Kd.R_drewN | apply Kd.R_drew)); exact HO_333003.out) hb); have n1_ := Aside0.mk (Kd.R_below (by (with_reducible repeat (first | apply Kd.R_alloc | apply Kd.R_drewN | apply Kd.R_drew)); exact HO_333006.out) hb); have n2_ := Aside0.mk (blk_below (g := gb292) (o := .cells #[.int .i64 a0_0, .int .i64 a0_1, .int .i64 a0_2, .slice A0_3 l0_3.length c0_3, .bool a0_4, .string a0_5, .slice A0_6 l0_6.length c0_6] 37 (0, 0)) (by (with_reducible repeat (first | apply bN | apply bD | apply bA)); exact BK292.out) hb); have n3_ := Aside0.mk (blk_below (g := gb293) (o := .cells #[.int .i64 a1_0, .int .i64 a1_1] 23 (0, 0)) (by (with_reducible repeat (first | apply bN | apply bD | apply bA)); exact BK293.out) hb); have n4_ := Aside0.mk (blk_below (g := gb294) (o := .cells #[.int .i64 a2_0, .int .i64 a2_1, .bool a2_2, .int .i64 a2_3, .int .i64 a2_4, .string a2_5] 39 (0, 0)) (by (with_reducible repeat (first | apply bN | apply bD | apply bA)); exact BK294.out) hb); have n5_ := Aside0.mk (blk_below (g := gb295) (o := .cells #[.int .i64 a3_0, .int .i64 a3_1, .bool a3_2, .int .i64 a3_3, .int .i64 a3_4, .string a3_5] 39 (0, 0)) (by (with_reducible repeat (first | apply bN | apply bD | apply bA)); exact BK295.out) hb); have n6_ := Aside0.mk (blk_below (g := gb332) (o := .cells #[.int .i64 t321, .int .i64 t322, .int .i64 t323, .slice Ao40 t324.length co40, .bool t327, .string t328, .slice Ao41 t329.length co41] 37 (0, 0)) (by (with_reducible repeat (first | apply bN | apply bD | apply bA)); exact BK332.out) hb); have n7_ := Aside0.mk (below_step (by repeat (first | (with_reducible first | exact HB.out | apply below_alloc | apply pw_below_drewN | apply below_drew1 | refine below_set ?_ (Aside0.out ‹_›)) | exact HB.out)) hb); clear HO_333003; clear HO_333006; clear BK292; clear BK293; clear BK294; clear BK295; clear BK332; clear HB; have HO_333003 := n0_; have HO_333006 := n1_; have BK292 := n2_; have BK293 := n3_; have BK294 := n4_; have BK295 := n5_; have BK332 := n6_; have HB := n7_; clear n0_ n1_ n2_ n3_ n4_ n5_ n6_ n7_; (try clear hb); (try clear hb2); (try clear hk); (try clear hi)) | (go_at_call 13; (with_reducible refine (reeflaw16_awake.calls kj13  t363 _ A66.out).mono ?_); rintro e w81 ⟨rfl, hb⟩; have n0_ := Aside0.mk (Kd.R_below (by (with_reducible repeat (first | apply Kd.R_alloc | apply Kd.R_drewN | apply Kd.R_drew)); exact HO_333003.out) hb); have n1_ := Aside0.mk (Kd.R_below (by (with_reducible repeat (first | apply Kd.R_alloc | apply Kd.R_drewN | apply Kd.R_drew)); exact HO_333006.out) hb); have n2_ := Aside0.mk (blk_below (g := gb292) (o := .cells #[.int .i64 a0_0, .int .i64 a0_1, .int .i64 a0_2, .slice A0_3 l0_3.length c0_3, .bool a0_4, .string a0_5, .slice A0_6 l0_6.length c0_6] 37 (0, 0)) (by (with_reducible repeat (first | apply bN | apply bD | apply bA)); exact BK292.out) hb); have n3_ := Aside0.mk (blk_below (g := gb293) (o := .cells #[.int .i64 a1_0, .int .i64 a1_1] 23 (0, 0)) (by (with_reducible repeat (first | apply bN | apply bD | apply bA)); exact BK293.out) hb); have n4_ := Aside0.mk (blk_below (g := gb294) (o := .cells #[.int .i64 a2_0, .int .i64 a2_1, .bool a2_2, .int .i64 a2_3, .int .i64 a2_4, .string a2_5] 39 (0, 0)) (by (with_reducible repeat (first | apply bN | apply bD | apply bA)); exact BK294.out) hb); have n5_ := Aside0.mk (blk_below (g := gb295) (o := .cells #[.int .i64 a3_0, .int .i64 a3_1, .bool a3_2, .int .i64 a3_3, .int .i64 a3_4, .string a3_5] 39 (0, 0)) (by (with_reducible repeat (first | apply bN | apply bD | apply bA)); exact BK295.out) hb); have n6_ := Aside0.mk (blk_below (g := gb332) (o := .cells #[.int .i64 t321, .int .i64 t322, .int .i64 t323, .slice Ao40 t324.length co40, .bool t327, .string t328, .slice Ao41 t329.length co41] 37 (0, 0)) (by (with_reducible repeat (first | apply bN | apply bD | apply bA)); exact BK332.out) hb); have n7_ := Aside0.mk (below_step (by repeat (first | (with_reducible first | exact HB.out | apply below_alloc | apply pw_below_drewN | apply below_drew1 | refine below_set ?_ (Aside0.out ‹_›)) | exact HB.out)) hb); clear HO_333003; clear HO_333006; clear BK292; clear BK293; clear BK294; clear BK295; clear BK332; clear HB; have HO_333003 := n0_; have HO_333006 := n1_; have BK292 := n2_; have BK293 := n3_; have BK294 := n4_; have BK295 := n5_; have BK332 := n6_; have HB := n7_; clear n0_ n1_ n2_ n3_ n4_ n5_ n6_ n7_; (try clear hb); (try clear hb2); (try clear hk); (try clear hi)))
         go_ret
         exact ⟨by first | rfl | (simp [errW_none, errW_some] <;> rfl) | (simp [*, errW_none, errW_some] <;> rfl), by repeat (first | (with_reducible first | exact HB.out | apply below_alloc | apply pw_below_drewN | apply below_drew1 | refine below_set ?_ (Aside0.out ‹_›)) | exact HB.out)⟩
        ·replace c65 := Bool.eq_false_iff.mpr c65
         subst c65
         have H1 : (none) = some r := by rw [if_neg (show ¬ (false = true) by decide)] at H; exact H
         clear H
         have H := H1
         clear H1
         exact absurd H (by simp)
       ·rw [if_neg c63] at H
        exact absurd H (by simp)
      ·rw [if_neg c62] at H
       exact absurd H (by simp)
  ·replace c12 := Bool.eq_false_iff.mpr c12
   subst c12
   have H1 : ((reeflaw16_awake.f k).bind fun t320 => (some t320)) = some r := by rw [if_neg (show ¬ (false = true) by decide)] at H; exact H
   clear H
   have H := H1
   clear H1
   replace H := Option.bind_eq_some_iff.mp H
   obtain ⟨t320, A820, H⟩ := H
   replace H : (some t320) = some r := H
   have A82 := Aside0.mk A820
   clear A820
   obtain rfl := Option.some.inj H
   go_enter Try.func5, Try.ntmps5
   try go_wp2_with (first | ((with_reducible refine gate_dst (N := 6) rfl ?_); refine box_event ?hg (N := 6) ?hd (cs := #[.int .i64 a0_0, .int .i64 a0_1, .int .i64 a0_2, .slice A0_3 l0_3.length c0_3, .bool a0_4, .string a0_5, .slice A0_6 l0_6.length c0_6]) (t := 37) ?hr ?_; (case hd => rfl); (case hg => rfl); (case hr => first | (go_simp; done) | (go_simp; rfl)); intro gb292 hg w83 hbox hb; have n0_ := Aside0.mk (below_step (by repeat (first | (with_reducible first | exact HB.out | apply below_alloc | apply pw_below_drewN | apply below_drew1) | exact HB.out)) hb); have n1_ := Aside0.mk (hbox); have n2_ := Aside0.mk ((by rw [hg]; exact (below_size (by repeat (first | (with_reducible first | exact HB.out | apply below_alloc | apply pw_below_drewN | apply below_drew1) | exact HB.out))) : w.heap.size ≤ gb292)); have n3_ := n2_; clear HB; have HB := n0_; have BK292 := n1_; have GW292 := n2_; have GE292 := n3_; clear n0_ n1_ n2_ n3_; clear hb hbox hg) | ((with_reducible refine gate_dst (N := 7) rfl ?_); refine box_event ?hg (N := 7) ?hd (cs := #[.int .i64 a1_0, .int .i64 a1_1]) (t := 23) ?hr ?_; (case hd => rfl); (case hg => rfl); (case hr => first | (go_simp; done) | (go_simp; rfl)); intro gb293 hg w84 hbox hb; have n0_ := Aside0.mk (blk_below (g := gb292) (o := .cells #[.int .i64 a0_0, .int .i64 a0_1, .int .i64 a0_2, .slice A0_3 l0_3.length c0_3, .bool a0_4, .string a0_5, .slice A0_6 l0_6.length c0_6] 37 (0, 0)) (by (with_reducible repeat (first | apply bN | apply bD | apply bA)); exact BK292.out) hb); have n1_ := Aside0.mk (below_step (by repeat (first | (with_reducible first | exact HB.out | apply below_alloc | apply pw_below_drewN | apply below_drew1 | refine below_set ?_ GE292.out) | exact HB.out)) hb); have n2_ := Aside0.mk (hbox); have n3_ := Aside0.mk ((by rw [hg]; exact (below_size (by repeat (first | (with_reducible first | exact HB.out | apply below_alloc | apply pw_below_drewN | apply below_drew1 | refine below_set ?_ GE292.out) | exact HB.out))) : w.heap.size ≤ gb293)); have n4_ := n3_; have n5_ := Aside0.mk ((by rw [hg]; exact Nat.ne_of_lt (blk_lt (g := gb292) (o := .cells #[.int .i64 a0_0, .int .i64 a0_1, .int .i64 a0_2, .slice A0_3 l0_3.length c0_3, .bool a0_4, .string a0_5, .slice A0_6 l0_6.length c0_6] 37 (0, 0)) (by (with_reducible repeat (first | apply bN | apply bD | apply bA)); exact BK292.out)) : gb292 ≠ gb293)); have n6_ := Aside0.mk ((by rw [hg]; exact Nat.ne_of_gt (blk_lt (g := gb292) (o := .cells #[.int .i64 a0_0, .int .i64 a0_1, .int .i64 a0_2, .slice A0_3 l0_3.length c0_3, .bool a0_4, .string a0_5, .slice A0_6 l0_6.length c0_6] 37 (0, 0)) (by (with_reducible repeat (first | apply bN | apply bD | apply bA)); exact BK292.out)) : gb293 ≠ gb292)); clear BK292; clear HB; have BK292 := n0_; have HB := n1_; have BK293 := n2_; have GW293 := n3_; have GE293 := n4_; have NB292_293 := n5_; have NB293_292 := n6_; clear n0_ n1_ n2_ n3_ n4_ n5_ n6_; clear hb hbox hg) | ((with_reducible refine gate_dst (N := 8) rfl ?_); refine box_event ?hg (N := 8) ?hd (cs := #[.int .i64 a2_0, .int .i64 a2_1, .bool a2_2, .int .i64 a2_3, .int .i64 a2_4, .string a2_5]) (t := 39) ?hr ?_; (case hd => rfl); (case hg => rfl); (case hr => first | (go_simp; done) | (go_simp; rfl)); intro gb294 hg w85 hbox hb; have n0_ := Aside0.mk (blk_below (g := gb292) (o := .cells #[.int .i64 a0_0, .int .i64 a0_1, .int .i64 a0_2, .slice A0_3 l0_3.length c0_3, .bool a0_4, .string a0_5, .slice A0_6 l0_6.length c0_6] 37 (0, 0)) (by (with_reducible repeat (first | apply bN | apply bD | apply bA)); exact BK292.out) hb); have n1_ := Aside0.mk (blk_below (g := gb293) (o := .cells #[.int .i64 a1_0, .int .i64 a1_1] 23 (0, 0)) (by (with_reducible repeat (first | apply bN | apply bD | apply bA)); exact BK293.out) hb); have n2_ := Aside0.mk (below_step (by repeat (first | (with_reducible first | exact HB.out | apply below_alloc | apply pw_below_drewN | apply below_drew1 | refine below_set ?_ (Aside0.out ‹_›)) | exact HB.out)) hb); have n3_ := Aside0.mk (hbox); have n4_ := Aside0.mk ((by rw [hg]; exact (below_size (by repeat (first | (with_reducible first | exact HB.out | apply below_alloc | apply pw_below_drewN | apply below_drew1 | refine below_set ?_ (Aside0.out ‹_›)) | exact HB.out))) : w.heap.size ≤ gb294)); have n5_ := n4_; have n6_ := Aside0.mk ((by rw [hg]; exact Nat.ne_of_lt (blk_lt (g := gb292) (o := .cells #[.int .i64 a0_0, .int .i64 a0_1, .int .i64 a0_2, .slice A0_3 l0_3.length c0_3, .bool a0_4, .string a0_5, .slice A0_6 l0_6.length c0_6] 37 (0, 0)) (by (with_reducible repeat (first | apply bN | apply bD | apply bA)); exact BK292.out)) : gb292 ≠ gb294)); have n7_ := Aside0.mk ((by rw [hg]; exact Nat.ne_of_gt (blk_lt (g := gb292) (o := .cells #[.int .i64 a0_0, .int .i64 a0_1, .int .i64 a0_2, .slice A0_3 l0_3.length c0_3, .bool a0_4, .string a0_5, .slice A0_6 l0_6.length c0_6] 37 (0, 0)) (by (with_reducible repeat (first | apply bN | apply bD | apply bA)); exact BK292.out)) : gb294 ≠ gb292)); have n8_ := Aside0.mk ((by rw [hg]; exact Nat.ne_of_lt (blk_lt (g := gb293) (o := .cells #[.int .i64 a1_0, .int .i64 a1_1] 23 (0, 0)) (by (with_reducible repeat (first | apply bN | apply bD | apply bA)); exact BK293.out)) : gb293 ≠ gb294)); have n9_ := Aside0.mk ((by rw [hg]; exact Nat.ne_of_gt (blk_lt (g := gb293) (o := .cells #[.int .i64 a1_0, .int .i64 a1_1] 23 (0, 0)) (by (with_reducible repeat (first | apply bN | apply bD | apply bA)); exact BK293.out)) : gb294 ≠ gb293)); clear BK292; clear BK293; clear HB; have BK292 := n0_; have BK293 := n1_; have HB := n2_; have BK294 := n3_; have GW294 := n4_; have GE294 := n5_; have NB292_294 := n6_; have NB294_292 := n7_; have NB293_294 := n8_; have NB294_293 := n9_; clear n0_ n1_ n2_ n3_ n4_ n5_ n6_ n7_ n8_ n9_; clear hb hbox hg) | ((with_reducible refine gate_dst (N := 9) rfl ?_); refine box_event ?hg (N := 9) ?hd (cs := #[.int .i64 a3_0, .int .i64 a3_1, .bool a3_2, .int .i64 a3_3, .int .i64 a3_4, .string a3_5]) (t := 39) ?hr ?_; (case hd => rfl); (case hg => rfl); (case hr => first | (go_simp; done) | (go_simp; rfl)); intro gb295 hg w86 hbox hb; have n0_ := Aside0.mk (blk_below (g := gb292) (o := .cells #[.int .i64 a0_0, .int .i64 a0_1, .int .i64 a0_2, .slice A0_3 l0_3.length c0_3, .bool a0_4, .string a0_5, .slice A0_6 l0_6.length c0_6] 37 (0, 0)) (by (with_reducible repeat (first | apply bN | apply bD | apply bA)); exact BK292.out) hb); have n1_ := Aside0.mk (blk_below (g := gb293) (o := .cells #[.int .i64 a1_0, .int .i64 a1_1] 23 (0, 0)) (by (with_reducible repeat (first | apply bN | apply bD | apply bA)); exact BK293.out) hb); have n2_ := Aside0.mk (blk_below (g := gb294) (o := .cells #[.int .i64 a2_0, .int .i64 a2_1, .bool a2_2, .int .i64 a2_3, .int .i64 a2_4, .string a2_5] 39 (0, 0)) (by (with_reducible repeat (first | apply bN | apply bD | apply bA)); exact BK294.out) hb); have n3_ := Aside0.mk (below_step (by repeat (first | (with_reducible first | exact HB.out | apply below_alloc | apply pw_below_drewN | apply below_drew1 | refine below_set ?_ (Aside0.out ‹_›)) | exact HB.out)) hb); have n4_ := Aside0.mk (hbox); have n5_ := Aside0.mk ((by rw [hg]; exact (below_size (by repeat (first | (with_reducible first | exact HB.out | apply below_alloc | apply pw_below_drewN | apply below_drew1 | refine below_set ?_ (Aside0.out ‹_›)) | exact HB.out))) : w.heap.size ≤ gb295)); have n6_ := n5_; have n7_ := Aside0.mk ((by rw [hg]; exact Nat.ne_of_lt (blk_lt (g := gb292) (o := .cells #[.int .i64 a0_0, .int .i64 a0_1, .int .i64 a0_2, .slice A0_3 l0_3.length c0_3, .bool a0_4, .string a0_5, .slice A0_6 l0_6.length c0_6] 37 (0, 0)) (by (with_reducible repeat (first | apply bN | apply bD | apply bA)); exact BK292.out)) : gb292 ≠ gb295)); have n8_ := Aside0.mk ((by rw [hg]; exact Nat.ne_of_gt (blk_lt (g := gb292) (o := .cells #[.int .i64 a0_0, .int .i64 a0_1, .int .i64 a0_2, .slice A0_3 l0_3.length c0_3, .bool a0_4, .string a0_5, .slice A0_6 l0_6.length c0_6] 37 (0, 0)) (by (with_reducible repeat (first | apply bN | apply bD | apply bA)); exact BK292.out)) : gb295 ≠ gb292)); have n9_ := Aside0.mk ((by rw [hg]; exact Nat.ne_of_lt (blk_lt (g := gb293) (o := .cells #[.int .i64 a1_0, .int .i64 a1_1] 23 (0, 0)) (by (with_reducible repeat (first | apply bN | apply bD | apply bA)); exact BK293.out)) : gb293 ≠ gb295)); have n10_ := Aside0.mk ((by rw [hg]; exact Nat.ne_of_gt (blk_lt (g := gb293) (o := .cells #[.int .i64 a1_0, .int .i64 a1_1] 23 (0, 0)) (by (with_reducible repeat (first | apply bN | apply bD | apply bA)); exact BK293.out)) : gb295 ≠ gb293)); have n11_ := Aside0.mk ((by rw [hg]; exact Nat.ne_of_lt (blk_lt (g := gb294) (o := .cells #[.int .i64 a2_0, .int .i64 a2_1, .bool a2_2, .int .i64 a2_3, .int .i64 a2_4, .string a2_5] 39 (0, 0)) (by (with_reducible repeat (first | apply bN | apply bD | apply bA)); exact BK294.out)) : gb294 ≠ gb295)); have n12_ := Aside0.mk ((by rw [hg]; exact Nat.ne_of_gt (blk_lt (g := gb294) (o := .cells #[.int .i64 a2_0, .int .i64 a2_1, .bool a2_2, .int .i64 a2_3, .int .i64 a2_4, .string a2_5] 39 (0, 0)) (by (with_reducible repeat (first | apply bN | apply bD | apply bA)); exact BK294.out)) : gb295 ≠ gb294)); clear BK292; clear BK293; clear BK294; clear HB; have BK292 := n0_; have BK293 := n1_; have BK294 := n2_; have HB := n3_; have BK295 := n4_; have GW295 := n5_; have GE295 := n6_; have NB292_295 := n7_; have NB295_292 := n8_; have NB293_295 := n9_; have NB295_293 := n10_; have NB294_295 := n11_; have NB295_294 := n12_; clear n0_ n1_ n2_ n3_ n4_ n5_ n6_ n7_ n8_ n9_ n10_ n11_ n12_; clear hb hbox hg))
   have n0_ := Aside0.mk (blk_drew BK292.out)
   have n1_ := Aside0.mk (blk_drew BK293.out)
   have n2_ := Aside0.mk (blk_drew BK294.out)
   have n3_ := Aside0.mk (blk_drew BK295.out)
   have n4_ := Aside0.mk (below_drew1 HB.out)
   clear BK292
   clear BK293
   clear BK294
   clear BK295
   clear HB
   have BK292 := n0_
   have BK293 := n1_
   have BK294 := n2_
   have BK295 := n3_
   have HB := n4_
   clear n0_ n1_ n2_ n3_ n4_
   refine start_ (n := 8) (S := fun w' => w'.cell? ⟨gb293, 0, none⟩ = some (.int .i64 a1_0) ∧ w'.cell? ⟨gb293, 1, none⟩ = some (.int .i64 a1_1) ∧ w'.cell? ⟨gb294, 0, none⟩ = some (.int .i64 a2_0) ∧ w'.cell? ⟨gb294, 1, none⟩ = some (.int .i64 a2_1) ∧ w'.cell? ⟨gb294, 2, none⟩ = some (.bool a2_2) ∧ w'.cell? ⟨gb294, 3, none⟩ = some (.int .i64 a2_3) ∧ w'.cell? ⟨gb294, 4, none⟩ = some (.int .i64 a2_4) ∧ w'.cell? ⟨gb294, 5, none⟩ = some (.string a2_5)) (ds := []) #[false, false, false, false, false, false, false, false] (by kernel_rfl) rfl rfl ⟨(blk_cell BK293.out 0).trans rfl, (blk_cell BK293.out 1).trans rfl, (blk_cell BK294.out 0).trans rfl, (blk_cell BK294.out 1).trans rfl, (blk_cell BK294.out 2).trans rfl, (blk_cell BK294.out 3).trans rfl, (blk_cell BK294.out 4).trans rfl, (blk_cell BK294.out 5).trans rfl⟩ (fun hHeld => ?_); refine with_tabW reeflaw16_LeadHears.tab1 reeflaw16_LeadHears.bits1 (fun HT_ HW_ => ?_)
   generalize w86.drew = w87 at BK292 BK293 BK294 BK295 HB hHeld ⊢
   refine take_ (i := 0) (N := some 18) (v := ?_) (a' := ?_) #[true, false, false, false, false, false, false, false] rfl rfl (take_ofW HT_.out HW_.out (by kernel_rfl)) (fun _ _ _ h => h) (Or.inl ⟨by rfl, ?_⟩) hHeld ?_ ?_
   rotate_left
   ·rintro w' ⟨s0, s1, s2, s3, s4, s5, s6, s7⟩
    go_simp
    with_reducible rfl
   rotate_left
   ·simp only [Act.put, List.setIfInBounds_toArray, List.set_cons_zero, List.set_cons_succ, i64_w, i32_w]
    rfl
   refine take_ (i := 1) (N := some 19) (v := ?_) (a' := ?_) #[true, true, false, false, false, false, false, false] rfl rfl (take_ofW HT_.out HW_.out (by kernel_rfl)) (fun _ _ _ h => h) (Or.inl ⟨by rfl, ?_⟩) hHeld ?_ ?_
   rotate_left
   ·rintro w' ⟨s0, s1, s2, s3, s4, s5, s6, s7⟩
    go_simp
    with_reducible rfl
   rotate_left
   ·simp only [Act.put, List.setIfInBounds_toArray, List.set_cons_zero, List.set_cons_succ, i64_w, i32_w]
    rfl
   refine take_ (i := 3) (N := some 21) (v := ?_) (a' := ?_) #[true, true, false, true, false, false, false, false] rfl rfl (take_ofW HT_.out HW_.out (by kernel_rfl)) (fun _ _ _ h => h) (Or.inl ⟨by rfl, ?_⟩) hHeld ?_ ?_
   rotate_left
   ·rintro w' ⟨s0, s1, s2, s3, s4, s5, s6, s7⟩
    go_simp
    with_reducible rfl
   rotate_left
   ·simp only [Act.put, List.setIfInBounds_toArray, List.set_cons_zero, List.set_cons_succ, i64_w, i32_w]
    rfl
   refine take_ (i := 4) (N := some 22) (v := ?_) (a' := ?_) #[true, true, false, true, true, false, false, false] rfl rfl (take_ofW HT_.out HW_.out (by kernel_rfl)) (fun _ _ _ h => h) (Or.inl ⟨by rfl, ?_⟩) hHeld ?_ ?_
   rotate_left
   ·rintro w' ⟨s0, s1, s2, s3, s4, s5, s6, s7⟩
    go_simp
    with_reducible rfl
   rotate_left
   ·simp only [Act.put, List.setIfInBounds_toArray, List.set_cons_zero, List.set_cons_succ, i64_w, i32_w]
    rfl
   refine one_ (i := 2) (N := some 20) #[true, true, true, true, true, false, false, false] rfl rfl (one_of HT_.out (by kernel_rfl)) (by decide) (fun K hK => ?_)
   refine goes_ Try.func15 (by kernel_rfl) rfl #[.agg #[.int .i64 a1_0, .int .i64 a1_1], .agg #[.int .i64 a2_0, .int .i64 a2_1, .bool a2_2, .int .i64 a2_3, .int .i64 a2_4, .string a2_5]] (by rfl) rfl rfl (by (try simp only [List.map_toArray, List.map_cons, List.map_nil]); first | done | rfl | (simp only [List.length_drop, List.length_take]; rfl)) ?_
   with_reducible refine (lead_Begin.calls a1_0 a1_1 a2_0 a2_1 a2_2 a2_3 a2_4 a2_5 t296 t297 t298 t299 t302 t303 t304 _ A7.out).mono ?_
   rintro e w88 ⟨v300, v305, rfl, ho0, ho1, hb⟩
   refine ⟨_, rfl, ?_⟩
   have n0_ := Aside0.mk (Kd.R_lower (Kd.R_newB (Kd.R_newB ho0 (g := gb294) (o := .cells #[.int .i64 a2_0, .int .i64 a2_1, .bool a2_2, .int .i64 a2_3, .int .i64 a2_4, .string a2_5] 39 (0, 0)) (by (with_reducible repeat (first | apply bN | apply bD | apply bA)); exact BK294.out)) (g := gb295) (o := .cells #[.int .i64 a3_0, .int .i64 a3_1, .bool a3_2, .int .i64 a3_3, .int .i64 a3_4, .string a3_5] 39 (0, 0)) (by (with_reducible repeat (first | apply bN | apply bD | apply bA)); exact BK295.out)) (below_size (by repeat (first | (with_reducible first | exact HB.out | apply below_alloc | apply pw_below_drewN | apply below_drew1 | refine below_set ?_ (Aside0.out ‹_›)) | exact HB.out))))
   have n1_ := Aside0.mk (Kd.R_lower ho1 (below_size (by repeat (first | (with_reducible first | exact HB.out | apply below_alloc | apply pw_below_drewN | apply below_drew1 | refine below_set ?_ (Aside0.out ‹_›)) | exact HB.out))))
   have n2_ := Aside0.mk (blk_below (g := gb292) (o := .cells #[.int .i64 a0_0, .int .i64 a0_1, .int .i64 a0_2, .slice A0_3 l0_3.length c0_3, .bool a0_4, .string a0_5, .slice A0_6 l0_6.length c0_6] 37 (0, 0)) (by (with_reducible repeat (first | apply bN | apply bD | apply bA)); exact BK292.out) hb)
   have n3_ := Aside0.mk (blk_below (g := gb293) (o := .cells #[.int .i64 a1_0, .int .i64 a1_1] 23 (0, 0)) (by (with_reducible repeat (first | apply bN | apply bD | apply bA)); exact BK293.out) hb)
   have n4_ := Aside0.mk (blk_below (g := gb294) (o := .cells #[.int .i64 a2_0, .int .i64 a2_1, .bool a2_2, .int .i64 a2_3, .int .i64 a2_4, .string a2_5] 39 (0, 0)) (by (with_reducible repeat (first | apply bN | apply bD | apply bA)); exact BK294.out) hb)
   have n5_ := Aside0.mk (blk_below (g := gb295) (o := .cells #[.int .i64 a3_0, .int .i64 a3_1, .bool a3_2, .int .i64 a3_3, .int .i64 a3_4, .string a3_5] 39 (0, 0)) (by (with_reducible repeat (first | apply bN | apply bD | apply bA)); exact BK295.out) hb)
   have n6_ := Aside0.mk (below_step (by repeat (first | (with_reducible first | exact HB.out | apply below_alloc | apply pw_below_drewN | apply below_drew1 | refine below_set ?_ (Aside0.out ‹_›)) | exact HB.out)) hb)
   clear BK292
   clear BK293
   clear BK294
   clear BK295
   clear HB
   have HO301 := n0_
   have HO306 := n1_
   have BK292 := n2_
   have BK293 := n3_
   have BK294 := n4_
   have BK295 := n5_
   have HB := n6_
   clear n0_ n1_ n2_ n3_ n4_ n5_ n6_
   (try clear hb)
   (try clear hb2)
   (try clear hk)
   (try clear hi)
   (try clear ho0)
   (try clear ho1)
   refine hK.out _ _ ⟨(blk_cell BK293.out 0).trans rfl, (blk_cell BK293.out 1).trans rfl, (blk_cell BK294.out 0).trans rfl, (blk_cell BK294.out 1).trans rfl, (blk_cell BK294.out 2).trans rfl, (blk_cell BK294.out 3).trans rfl, (blk_cell BK294.out 4).trans rfl, (blk_cell BK294.out 5).trans rfl⟩ (fun hHeld => ?_)
   clear hK K
   refine norm_ (a' := ?_) ?_ ?_
   rotate_left
   ·show Act.put _ (some 20) _ = _
    simp only [Act.put, List.setIfInBounds_toArray, List.set_cons_zero, List.set_cons_succ, i64_w, i32_w]
    rfl
   refine one_ (i := 5) (N := some 23) #[true, true, true, true, true, true, false, false] rfl rfl (one_of HT_.out (by kernel_rfl)) (by decide) (fun K hK => ?_)
   refine goes_ Try.func16 (by kernel_rfl) rfl #[.agg #[.int .i64 a1_0, .int .i64 a1_1], .agg #[.int .i64 a2_0, .int .i64 a2_1, .bool a2_2, .int .i64 a2_3, .int .i64 a2_4, .string a2_5]] (by rfl) rfl rfl (by (try simp only [List.map_toArray, List.map_cons, List.map_nil]); first | done | rfl | (simp only [List.length_drop, List.length_take]; rfl)) ?_
   with_reducible refine (reefref16_Begin.calls a1_0 a1_1 a2_0 a2_1 a2_2 a2_3 a2_4 a2_5 t307 t308 t309 t310 t313 t314 t315 _ A8.out).mono ?_
   rintro e w89 ⟨v311, v316, rfl, ho0, ho1, hb⟩
   refine ⟨_, rfl, ?_⟩
   have n0_ := Aside0.mk (Kd.R_elder' (by (with_reducible repeat (first | apply Kd.R_alloc | apply Kd.R_drewN | apply Kd.R_drew)); exact HO301.out) (Kd.R_base ho0) hb)
   have n1_ := Aside0.mk (Kd.R_elder' (by (with_reducible repeat (first | apply Kd.R_alloc | apply Kd.R_drewN | apply Kd.R_drew)); exact HO306.out) (Kd.R_base ho1) hb)
   have n2_ := Aside0.mk (Kd.R_lower (Kd.R_newB (Kd.R_newB (Kd.R_new' ho0 (Kd.R_lt (by (with_reducible repeat (first | apply Kd.R_alloc | apply Kd.R_drewN | apply Kd.R_drew)); exact HO301.out))) (g := gb294) (o := .cells #[.int .i64 a2_0, .int .i64 a2_1, .bool a2_2, .int .i64 a2_3, .int .i64 a2_4, .string a2_5] 39 (0, 0)) (by (with_reducible repeat (first | apply bN | apply bD | apply bA)); exact BK294.out)) (g := gb295) (o := .cells #[.int .i64 a3_0, .int .i64 a3_1, .bool a3_2, .int .i64 a3_3, .int .i64 a3_4, .string a3_5] 39 (0, 0)) (by (with_reducible repeat (first | apply bN | apply bD | apply bA)); exact BK295.out)) (below_size (by repeat (first | (with_reducible first | exact HB.out | apply below_alloc | apply pw_below_drewN | apply below_drew1 | refine below_set ?_ (Aside0.out ‹_›)) | exact HB.out))))
   have n3_ := Aside0.mk (Kd.R_lower (Kd.R_new' ho1 (Kd.R_lt (by (with_reducible repeat (first | apply Kd.R_alloc | apply Kd.R_drewN | apply Kd.R_drew)); exact HO306.out))) (below_size (by repeat (first | (with_reducible first | exact HB.out | apply below_alloc | apply pw_below_drewN | apply below_drew1 | refine below_set ?_ (Aside0.out ‹_›)) | exact HB.out))))
   have n4_ := Aside0.mk (blk_below (g := gb292) (o := .cells #[.int .i64 a0_0, .int .i64 a0_1, .int .i64 a0_2, .slice A0_3 l0_3.length c0_3, .bool a0_4, .string a0_5, .slice A0_6 l0_6.length c0_6] 37 (0, 0)) (by (with_reducible repeat (first | apply bN | apply bD | apply bA)); exact BK292.out) hb)
   have n5_ := Aside0.mk (blk_below (g := gb293) (o := .cells #[.int .i64 a1_0, .int .i64 a1_1] 23 (0, 0)) (by (with_reducible repeat (first | apply bN | apply bD | apply bA)); exact BK293.out) hb)
   have n6_ := Aside0.mk (blk_below (g := gb294) (o := .cells #[.int .i64 a2_0, .int .i64 a2_1, .bool a2_2, .int .i64 a2_3, .int .i64 a2_4, .string a2_5] 39 (0, 0)) (by (with_reducible repeat (first | apply bN | apply bD | apply bA)); exact BK294.out) hb)
   have n7_ := Aside0.mk (blk_below (g := gb295) (o := .cells #[.int .i64 a3_0, .int .i64 a3_1, .bool a3_2, .int .i64 a3_3, .int .i64 a3_4, .string a3_5] 39 (0, 0)) (by (with_reducible repeat (first | apply bN | apply bD | apply bA)); exact BK295.out) hb)
   have n8_ := Aside0.mk (below_step (by repeat (first | (with_reducible first | exact HB.out | apply below_alloc | apply pw_below_drewN | apply below_drew1 | refine below_set ?_ (Aside0.out ‹_›)) | exact HB.out)) hb)
   clear HO301
   clear HO306
   clear BK292
   clear BK293
   clear BK294
   clear BK295
   clear HB
   have HO301 := n0_
   have HO306 := n1_
   have HO312 := n2_
   have HO317 := n3_
   have BK292 := n4_
   have BK293 := n5_
   have BK294 := n6_
   have BK295 := n7_
   have HB := n8_
   clear n0_ n1_ n2_ n3_ n4_ n5_ n6_ n7_ n8_
   (try clear hb)
   (try clear hb2)
   (try clear hk)
   (try clear hi)
   (try clear ho0)
   (try clear ho1)
   obtain ⟨Ao90, co90, eo90⟩ := Kd.R_slice HO301.out
   (first | subst eo90 | (injection eo90 with f1_ f2_ f3_; have f4_ := f1_.symm; have f5_ := f3_.symm; clear f1_ f2_ f3_; subst f4_; subst f5_))
   obtain ⟨Ao91, co91, eo91⟩ := Kd.R_slice HO306.out
   (first | subst eo91 | (injection eo91 with f1_ f2_ f3_; have f4_ := f1_.symm; have f5_ := f3_.symm; clear f1_ f2_ f3_; subst f4_; subst f5_))
   obtain ⟨Ao92, co92, eo92⟩ := Kd.R_slice HO312.out
   (first | subst eo92 | (injection eo92 with f1_ f2_ f3_; have f4_ := f1_.symm; have f5_ := f3_.symm; clear f1_ f2_ f3_; subst f4_; subst f5_))
   obtain ⟨Ao93, co93, eo93⟩ := Kd.R_slice HO317.out
   (first | subst eo93 | (injection eo93 with f1_ f2_ f3_; have f4_ := f1_.symm; have f5_ := f3_.symm; clear f1_ f2_ f3_; subst f4_; subst f5_))
   refine hK.out _ _ ⟨(blk_cell BK293.out 0).trans rfl, (blk_cell BK293.out 1).trans rfl, (blk_cell BK294.out 0).trans rfl, (blk_cell BK294.out 1).trans rfl, (blk_cell BK294.out 2).trans rfl, (blk_cell BK294.out 3).trans rfl, (blk_cell BK294.out 4).trans rfl, (blk_cell BK294.out 5).trans rfl⟩ (fun hHeld => ?_)
   clear hK K
   refine norm_ (a' := ?_) ?_ ?_
   rotate_left
   ·show Act.put _ (some 23) _ = _
    simp only [Act.put, List.setIfInBounds_toArray, List.set_cons_zero, List.set_cons_succ, i64_w, i32_w]
    rfl
   refine one_ (i := 6) (N := some 24) #[true, true, true, true, true, true, true, false] rfl rfl (one_of HT_.out (by kernel_rfl)) (by decide) (fun K hK => ?_)
   refine goes_ Try.func14 (by kernel_rfl) rfl #[.agg #[.int .i64 t296, .int .i64 t297, .int .i64 t298, .slice Ao90 t299.length co90, .bool t302, .string t303, .slice Ao91 t304.length co91], .agg #[.int .i64 t307, .int .i64 t308, .int .i64 t309, .slice Ao92 t310.length co92, .bool t313, .string t314, .slice Ao93 t315.length co93]] (by rfl) rfl rfl (by (try simp only [List.map_toArray, List.map_cons, List.map_nil]); first | done | rfl | (simp only [List.length_drop, List.length_take]; rfl)) ?_
   with_reducible refine (lead_Same.calls k t296 t297 t298 _ _ t299 t302 t303 _ _ t304 t307 t308 t309 _ _ t310 t313 t314 _ _ t315 true _ ?side1 ?side2 ?side3 ?side4 ?side5 ?side6 ?side7 ?side8 A9.out).mono ?_
   (case side1 => repeat (first | exact (Kd.R_reads' HO301.out).2.2 | (with_reducible refine Kd.C_alloc ?_ _) | (with_reducible refine Kd.C_drewN ?_ _) | (with_reducible refine Kd.C_drew ?_)))
   (case side2 => exact (Kd.R_reads' HO301.out).2.1)
   (case side3 => repeat (first | exact (Kd.R_reads' HO306.out).2.2 | (with_reducible refine Kd.C_alloc ?_ _) | (with_reducible refine Kd.C_drewN ?_ _) | (with_reducible refine Kd.C_drew ?_)))
   (case side4 => exact (Kd.R_reads' HO306.out).2.1)
   (case side5 => repeat (first | exact (Kd.R_reads' HO312.out).2.2 | (with_reducible refine Kd.C_alloc ?_ _) | (with_reducible refine Kd.C_drewN ?_ _) | (with_reducible refine Kd.C_drew ?_)))
   (case side6 => exact (Kd.R_reads' HO312.out).2.1)
   (case side7 => repeat (first | exact (Kd.R_reads' HO317.out).2.2 | (with_reducible refine Kd.C_alloc ?_ _) | (with_reducible refine Kd.C_drewN ?_ _) | (with_reducible refine Kd.C_drew ?_)))
   (case side8 => exact (Kd.R_reads' HO317.out).2.1)
   rintro e w94 ⟨rfl, hb⟩
   refine ⟨_, rfl, ?_⟩
   have n0_ := Aside0.mk (Kd.R_below (by (with_reducible repeat (first | apply Kd.R_alloc | apply Kd.R_drewN | apply Kd.R_drew)); exact HO301.out) hb)
   have n1_ := Aside0.mk (Kd.R_below (by (with_reducible repeat (first | apply Kd.R_alloc | apply Kd.R_drewN | apply Kd.R_drew)); exact HO306.out) hb)
   have n2_ := Aside0.mk (Kd.R_below (by (with_reducible repeat (first | apply Kd.R_alloc | apply Kd.R_drewN | apply Kd.R_drew)); exact HO312.out) hb)
   have n3_ := Aside0.mk (Kd.R_below (by (with_reducible repeat (first | apply Kd.R_alloc | apply Kd.R_drewN | apply Kd.R_drew)); exact HO317.out) hb)
   have n4_ := Aside0.mk (blk_below (g := gb292) (o := .cells #[.int .i64 a0_0, .int .i64 a0_1, .int .i64 a0_2, .slice A0_3 l0_3.length c0_3, .bool a0_4, .string a0_5, .slice A0_6 l0_6.length c0_6] 37 (0, 0)) (by (with_reducible repeat (first | apply bN | apply bD | apply bA)); exact BK292.out) hb)
   have n5_ := Aside0.mk (blk_below (g := gb293) (o := .cells #[.int .i64 a1_0, .int .i64 a1_1] 23 (0, 0)) (by (with_reducible repeat (first | apply bN | apply bD | apply bA)); exact BK293.out) hb)
   have n6_ := Aside0.mk (blk_below (g := gb294) (o := .cells #[.int .i64 a2_0, .int .i64 a2_1, .bool a2_2, .int .i64 a2_3, .int .i64 a2_4, .string a2_5] 39 (0, 0)) (by (with_reducible repeat (first | apply bN | apply bD | apply bA)); exact BK294.out) hb)
   have n7_ := Aside0.mk (blk_below (g := gb295) (o := .cells #[.int .i64 a3_0, .int .i64 a3_1, .bool a3_2, .int .i64 a3_3, .int .i64 a3_4, .string a3_5] 39 (0, 0)) (by (with_reducible repeat (first | apply bN | apply bD | apply bA)); exact BK295.out) hb)
   have n8_ := Aside0.mk (below_step (by repeat (first | (with_reducible first | exact HB.out | apply below_alloc | apply pw_below_drewN | apply below_drew1 | refine below_set ?_ (Aside0.out ‹_›)) | exact HB.out)) hb)
   clear HO301
   clear HO306
   clear HO312
   clear HO317
   clear BK292
   clear BK293
   clear BK294
   clear BK295
   clear HB
   have HO301 := n0_
   have HO306 := n1_
   have HO312 := n2_
   have HO317 := n3_
   have BK292 := n4_
   have BK293 := n5_
   have BK294 := n6_
   have BK295 := n7_
   have HB := n8_
   clear n0_ n1_ n2_ n3_ n4_ n5_ n6_ n7_ n8_
   (try clear hb)
   (try clear hb2)
   (try clear hk)
   (try clear hi)
   refine hK.out _ _ ⟨(blk_cell BK293.out 0).trans rfl, (blk_cell BK293.out 1).trans rfl, (blk_cell BK294.out 0).trans rfl, (blk_cell BK294.out 1).trans rfl, (blk_cell BK294.out 2).trans rfl, (blk_cell BK294.out 3).trans rfl, (blk_cell BK294.out 4).trans rfl, (blk_cell BK294.out 5).trans rfl⟩ (fun hHeld => ?_)
   clear hK K
   refine norm_ (a' := ?_) ?_ ?_
   rotate_left
   ·show Act.put _ (some 24) _ = _
    simp only [Act.put, List.setIfInBounds_toArray, List.set_cons_zero, List.set_cons_succ, i64_w, i32_w]
    rfl
   refine pure_ (i := 7) (N := some 25) (v := ?_) (a' := ?_) #[true, true, true, true, true, true, true, true] rfl rfl (any_of HT_.out (by kernel_rfl)) (fun _ _ _ h => h) (Or.inl ⟨by rfl, ?_⟩) ?_ ?_
   rotate_left
   ·intro w'
    go_simp
    with_reducible rfl
   rotate_left
   ·simp only [Act.put, List.setIfInBounds_toArray, List.set_cons_zero, List.set_cons_succ, i64_w, i32_w]
    rfl
   refine done_ (done_of HT_.out (by kernel_rfl)) ?_
   have hnb95 := NB292_293.out
   have hnc95 := NB293_292.out
   have hnb96 := NB292_294.out
   have hnc96 := NB294_292.out
   have hnb97 := NB292_295.out
   have hnc97 := NB295_292.out
   obtain ⟨hcz98_0, hcz98_1, hcz98_2, hcz98_3, hcz98_4, hcz98_5, hcz98_6⟩ := blkC7 w94 gb292 (.int .i64 a0_0) (.int .i64 a0_1) (.int .i64 a0_2) (.slice A0_3 l0_3.length c0_3) (.bool a0_4) (.string a0_5) (.slice A0_6 l0_6.length c0_6) BK292.out
   obtain ⟨hfz98_0, hfz98_1, hfz98_2, hfz98_3, hfz98_4, hfz98_5, hfz98_6⟩ := blkF7 BK292.out
   try go_wp2_with (first | ((with_reducible refine gate_callee (f := 17) rfl ?_); refine goesL_ (some 27) rfl rfl Try.func17 (by kernel_rfl) rfl #[.agg #[.int .i64 a0_0, .int .i64 a0_1, .int .i64 a0_2, .slice A0_3 l0_3.length c0_3, .bool a0_4, .string a0_5, .slice A0_6 l0_6.length c0_6]] rfl (by (try simp only [List.map_toArray, List.map_cons, List.map_nil]); first | done | rfl | (simp only [List.length_drop, List.length_take]; rfl)) ?_; (with_reducible refine (reefref16_Rises.calls k a0_0 a0_1 a0_2 _ _ l0_3 a0_4 a0_5 _ _ l0_6 false _ ?side1 ?side2 ?side3 ?side4 A11.out).mono ?_); (case side1 => repeat (first | exact (Kd.C_below HR0_3.out HB.out) | (with_reducible refine Kd.C_alloc ?_ _) | (with_reducible refine Kd.C_drewN ?_ _) | (with_reducible refine Kd.C_drew ?_))); (case side2 => exact HC0_3.out); (case side3 => repeat (first | exact (Kd.C_below HR0_6.out HB.out) | (with_reducible refine Kd.C_alloc ?_ _) | (with_reducible refine Kd.C_drewN ?_ _) | (with_reducible refine Kd.C_drew ?_))); (case side4 => exact HC0_6.out); rintro e w99 ⟨rfl, hb⟩; refine ⟨_, rfl, ?_⟩; have n0_ := Aside0.mk (Kd.R_below (by (with_reducible repeat (first | apply Kd.R_alloc | apply Kd.R_drewN | apply Kd.R_drew)); exact HO301.out) hb); have n1_ := Aside0.mk (Kd.R_below (by (with_reducible repeat (first | apply Kd.R_alloc | apply Kd.R_drewN | apply Kd.R_drew)); exact HO306.out) hb); have n2_ := Aside0.mk (Kd.R_below (by (with_reducible repeat (first | apply Kd.R_alloc | apply Kd.R_drewN | apply Kd.R_drew)); exact HO312.out) hb); have n3_ := Aside0.mk (Kd.R_below (by (with_reducible repeat (first | apply Kd.R_alloc | apply Kd.R_drewN | apply Kd.R_drew)); exact HO317.out) hb); have n4_ := Aside0.mk (blk_below (g := gb292) (o := .cells #[.int .i64 a0_0, .int .i64 a0_1, .int .i64 a0_2, .slice A0_3 l0_3.length c0_3, .bool a0_4, .string a0_5, .slice A0_6 l0_6.length c0_6] 37 (0, 0)) (by (with_reducible repeat (first | apply bN | apply bD | apply bA)); exact BK292.out) hb); have n5_ := Aside0.mk (blk_below (g := gb293) (o := .cells #[.int .i64 a1_0, .int .i64 a1_1] 23 (0, 0)) (by (with_reducible repeat (first | apply bN | apply bD | apply bA)); exact BK293.out) hb); have n6_ := Aside0.mk (blk_below (g := gb294) (o := .cells #[.int .i64 a2_0, .int .i64 a2_1, .bool a2_2, .int .i64 a2_3, .int .i64 a2_4, .string a2_5] 39 (0, 0)) (by (with_reducible repeat (first | apply bN | apply bD | apply bA)); exact BK294.out) hb); have n7_ := Aside0.mk (blk_below (g := gb295) (o := .cells #[.int .i64 a3_0, .int .i64 a3_1, .bool a3_2, .int .i64 a3_3, .int .i64 a3_4, .string a3_5] 39 (0, 0)) (by (with_reducible repeat (first | apply bN | apply bD | apply bA)); exact BK295.out) hb); have n8_ := Aside0.mk (below_step (by repeat (first | (with_reducible first | exact HB.out | apply below_alloc | apply pw_below_drewN | apply below_drew1 | refine below_set ?_ (Aside0.out ‹_›)) | exact HB.out)) hb); clear HO301; clear HO306; clear HO312; clear HO317; clear BK292; clear BK293; clear BK294; clear BK295; clear HB; have HO301 := n0_; have HO306 := n1_; have HO312 := n2_; have HO317 := n3_; have BK292 := n4_; have BK293 := n5_; have BK294 := n6_; have BK295 := n7_; have HB := n8_; clear n0_ n1_ n2_ n3_ n4_ n5_ n6_ n7_ n8_; (try clear hb); (try clear hb2); (try clear hk); (try clear hi)) | ((with_reducible refine gate_callee (f := 13) rfl ?_); refine goesL_ (some 29) rfl rfl Try.func13 (by kernel_rfl) rfl #[] rfl (by (try simp only [List.map_toArray, List.map_cons, List.map_nil]); first | done | rfl | (simp only [List.length_drop, List.length_take]; rfl)) ?_; (with_reducible refine (reeflaw16_awake.calls k  t320 _ A82.out).mono ?_); rintro e w100 ⟨rfl, hb⟩; refine ⟨_, rfl, ?_⟩; have n0_ := Aside0.mk (Kd.R_below (by (with_reducible repeat (first | apply Kd.R_alloc | apply Kd.R_drewN | apply Kd.R_drew)); exact HO301.out) hb); have n1_ := Aside0.mk (Kd.R_below (by (with_reducible repeat (first | apply Kd.R_alloc | apply Kd.R_drewN | apply Kd.R_drew)); exact HO306.out) hb); have n2_ := Aside0.mk (Kd.R_below (by (with_reducible repeat (first | apply Kd.R_alloc | apply Kd.R_drewN | apply Kd.R_drew)); exact HO312.out) hb); have n3_ := Aside0.mk (Kd.R_below (by (with_reducible repeat (first | apply Kd.R_alloc | apply Kd.R_drewN | apply Kd.R_drew)); exact HO317.out) hb); have n4_ := Aside0.mk (blk_below (g := gb292) (o := .cells #[.int .i64 a0_0, .int .i64 a0_1, .int .i64 a0_2, .slice A0_3 l0_3.length c0_3, .bool a0_4, .string a0_5, .slice A0_6 l0_6.length c0_6] 37 (0, 0)) (by (with_reducible repeat (first | apply bN | apply bD | apply bA)); exact BK292.out) hb); have n5_ := Aside0.mk (blk_below (g := gb293) (o := .cells #[.int .i64 a1_0, .int .i64 a1_1] 23 (0, 0)) (by (with_reducible repeat (first | apply bN | apply bD | apply bA)); exact BK293.out) hb); have n6_ := Aside0.mk (blk_below (g := gb294) (o := .cells #[.int .i64 a2_0, .int .i64 a2_1, .bool a2_2, .int .i64 a2_3, .int .i64 a2_4, .string a2_5] 39 (0, 0)) (by (with_reducible repeat (first | apply bN | apply bD | apply bA)); exact BK294.out) hb); have n7_ := Aside0.mk (blk_below (g := gb295) (o := .cells #[.int .i64 a3_0, .int .i64 a3_1, .bool a3_2, .int .i64 a3_3, .int .i64 a3_4, .string a3_5] 39 (0, 0)) (by (with_reducible repeat (first | apply bN | apply bD | apply bA)); exact BK295.out) hb); have n8_ := Aside0.mk (below_step (by repeat (first | (with_reducible first | exact HB.out | apply below_alloc | apply pw_below_drewN | apply below_drew1 | refine below_set ?_ (Aside0.out ‹_›)) | exact HB.out)) hb); clear HO301; clear HO306; clear HO312; clear HO317; clear BK292; clear BK293; clear BK294; clear BK295; clear HB; have HO301 := n0_; have HO306 := n1_; have HO312 := n2_; have HO317 := n3_; have BK292 := n4_; have BK293 := n5_; have BK294 := n6_; have BK295 := n7_; have HB := n8_; clear n0_ n1_ n2_ n3_ n4_ n5_ n6_ n7_ n8_; (try clear hb); (try clear hb2); (try clear hk); (try clear hi)))
   go_ret
   exact ⟨by first | rfl | (simp [errW_none, errW_some] <;> rfl) | (simp [*, errW_none, errW_some] <;> rfl), by repeat (first | (with_reducible first | exact HB.out | apply below_alloc | apply pw_below_drewN | apply below_drew1 | refine below_set ?_ (Aside0.out ‹_›)) | exact HB.out)⟩
 ·replace c10 := Bool.eq_false_iff.mpr c10
  subst c10
  have H1 : (none) = some r := by rw [if_neg (show ¬ (false = true) by decide)] at H; exact H
  clear H
  have H := H1
  clear H1
  exact absurd H (by simp)
end Go.Proofs.Ytpdpjcpmpppadaa.P

-- left of the seat's texts by prune.py, a program of this session
import Derived.Test.YtpdpjcpmpppadaaP0
import Derived.Test.YtpdpjcpmpppadaaP9
import Derived.Test.YtpdpjcpmpppadaaP10
import Derived.Test.YtpdpjcpmpppadaaP11
import Derived.Test.YtpdpjcpmpppadaaP14
import Derived.Test.YtpdpjcpmpppadaaP16
import Derived.Test.YtpdpjcpmpppadaaP17
import Derived.Test.YtpdpjcpmpppadaaP21
import Derived.Test.YtpdpjcpmpppadaaP22
import Derived.Test.YtpdpjcpmpppadaaP24
import Derived.Test.YtpdpjcpmpppadaaAck
import Derived.Test.YtpdpjcpmpppadaaDone
import Derived.Test.YtpdpjcpmpppadaaRCopy
import Derived.Test.YtpdpjcpmpppadaaWait
namespace Go.Proofs.Ytpdpjcpmpppadaa.P
open Go.RowKit Go.Proofs.YtpdpjcpmpppadaaW.PrintWords Go.Proofs.YtpdpjcpmpppadaaW.PrintLast Go.Proofs.YtpdpjcpmpppadaaW.PrintMore
attribute [local go_sem] max2_int min2_int max_two min_two max_three min_three max_four min_four   -- for this text's walks alone
set_option linter.unusedVariables false
set_option linter.unusedSimpArgs false
mutual
def reeflaw16_LeadDoes.j0 : Nat → ByteArray → Int → Int → Bool → Int → Int → Int → List (S39) → Bool → ByteArray → List Int → Option (Bool)
 | 0, _, _, _, _, _, _, _, _, _, _, _ => none
 | k + 1, x2, x3, x4, x28, x476000, x476001, x476002, x476003, x476004, x476005, x476006 => if x28 = true then (none) else ((reefref16_Rises.f k x476000 x476001 x476002 x476003 x476004 x476005 x476006).bind fun t491 => (if t491 = true then ((reefref16_Copy.f x476000 x476001 x476002 x476003 x476004 x476005 x476006).bind fun bt493 => ((lead_Lead.f bt493.1 bt493.2.1 bt493.2.2.1 bt493.2.2.2.1 bt493.2.2.2.2.1 bt493.2.2.2.2.2.1 bt493.2.2.2.2.2.2).bind fun bt505 => ((reefref16_Lead.f x476000 x476001 x476002 x476003 x476004 x476005 x476006).bind fun bt516 => ((reefref16_Same.f k bt505.1 bt505.2.1 bt505.2.2.1 bt505.2.2.2.1 bt505.2.2.2.2.1 bt505.2.2.2.2.2.1 bt505.2.2.2.2.2.2 bt516.1 bt516.2.1 bt516.2.2.1 bt516.2.2.2.1 bt516.2.2.2.2.1 bt516.2.2.2.2.2.1 bt516.2.2.2.2.2.2).bind fun t527 => (if t527 = true then ((lead_Propose.f bt493.1 bt493.2.1 bt493.2.2.1 bt493.2.2.2.1 bt493.2.2.2.2.1 bt493.2.2.2.2.2.1 bt493.2.2.2.2.2.2 x2 x3).bind fun bt528 => ((reefref16_Propose.f x476000 x476001 x476002 x476003 x476004 x476005 x476006 x2 x3).bind fun bt539 => ((reefref16_Same.f k bt528.1 bt528.2.1 bt528.2.2.1 bt528.2.2.2.1 bt528.2.2.2.2.1 bt528.2.2.2.2.2.1 bt528.2.2.2.2.2.2 bt539.1 bt539.2.1 bt539.2.2.1 bt539.2.2.2.1 bt539.2.2.2.2.1 bt539.2.2.2.2.2.1 bt539.2.2.2.2.2.2).bind fun t550 => (if t550 = true then ((lead_Ack.f k bt493.1 bt493.2.1 bt493.2.2.1 bt493.2.2.2.1 bt493.2.2.2.2.1 bt493.2.2.2.2.2.1 bt493.2.2.2.2.2.2 x3).bind fun bt551 => ((reefref16_Ack.f k x476000 x476001 x476002 x476003 x476004 x476005 x476006 x3).bind fun bt562 => ((reefref16_Same.f k bt551.1 bt551.2.1 bt551.2.2.1 bt551.2.2.2.1 bt551.2.2.2.2.1 bt551.2.2.2.2.2.1 bt551.2.2.2.2.2.2 bt562.1 bt562.2.1 bt562.2.2.1 bt562.2.2.2.1 bt562.2.2.2.2.1 bt562.2.2.2.2.2.1 bt562.2.2.2.2.2.2).bind fun t573 => (if t573 = true then ((lead_Done.f bt493.1 bt493.2.1 bt493.2.2.1 bt493.2.2.2.1 bt493.2.2.2.2.1 bt493.2.2.2.2.2.1 bt493.2.2.2.2.2.2).bind fun bt574 => ((reefref16_Done.f x476000 x476001 x476002 x476003 x476004 x476005 x476006).bind fun bt585 => ((reefref16_Same.f k bt574.1 bt574.2.1 bt574.2.2.1 bt574.2.2.2.1 bt574.2.2.2.2.1 bt574.2.2.2.2.2.1 bt574.2.2.2.2.2.2 bt585.1 bt585.2.1 bt585.2.2.1 bt585.2.2.2.1 bt585.2.2.2.2.1 bt585.2.2.2.2.2.1 bt585.2.2.2.2.2.2).bind fun t596 => (if t596 = true then ((lead_Chosen.f bt493.1 bt493.2.1 bt493.2.2.1 bt493.2.2.2.1 bt493.2.2.2.2.1 bt493.2.2.2.2.2.1 bt493.2.2.2.2.2.2 x4).bind fun t597 => ((reefref16_Chosen.f x476000 x476001 x476002 x476003 x476004 x476005 x476006 x4).bind fun t598 => (reeflaw16_LeadDoes.j1 k x4 (t597 != t598) x476000 x476001 x476002 x476003 x476004 x476005 x476006 bt493.1 bt493.2.1 bt493.2.2.1 bt493.2.2.2.1 bt493.2.2.2.2.1 bt493.2.2.2.2.2.1 bt493.2.2.2.2.2.2))) else (none))))) else (none))))) else (none))))) else (none)))))) else ((reeflaw16_awake.f k).bind fun t492 => (some t492))))
def reeflaw16_LeadDoes.j1 : Nat → Int → Bool → Int → Int → Int → List (S39) → Bool → ByteArray → List Int → Int → Int → Int → List (S39) → Bool → ByteArray → List Int → Option (Bool)
 | 0, _, _, _, _, _, _, _, _, _, _, _, _, _, _, _, _ => none
 | k + 1, x4, x79, x476000, x476001, x476002, x476003, x476004, x476005, x476006, x505000, x505001, x505002, x505003, x505004, x505005, x505006 => if x79 = true then (none) else ((lead_Wait.f x505000 x505001 x505002 x505003 x505004 x505005 x505006 x4).bind fun t599 => ((reefref16_Wait.f k x476000 x476001 x476002 x476003 x476004 x476005 x476006 x4).bind fun t602 => (if (t599.length : Int) = (t602.length : Int) then (reeflaw16_LeadDoes.l0 k t599 t602 0 x476000 x476001 x476002 x476003 x476004 x476005 x476006 x505000 x505001 x505002 x505003 x505004 x505005 x505006) else (none))))
def reeflaw16_LeadDoes.l0 : Nat → List Int → List Int → Int → Int → Int → Int → List (S39) → Bool → ByteArray → List Int → Int → Int → Int → List (S39) → Bool → ByteArray → List Int → Option (Bool)
 | 0, _, _, _, _, _, _, _, _, _, _, _, _, _, _, _, _, _ => none
 | k + 1, x12, x13, x14, x476000, x476001, x476002, x476003, x476004, x476005, x476006, x505000, x505001, x505002, x505003, x505004, x505005, x505006 => if x14 < (x12.length : Int) then (if 0 ≤ x14 then (if x14 < (x13.length : Int) then (if (rd x12 x14) = (rd x13 x14) then (reeflaw16_LeadDoes.l0 k x12 x13 (wrap64 (x14 + 1)) x476000 x476001 x476002 x476003 x476004 x476005 x476006 x505000 x505001 x505002 x505003 x505004 x505005 x505006) else (none)) else (none)) else (none)) else ((reefref16_Same.f k x505000 x505001 x505002 x505003 x505004 x505005 x505006 x476000 x476001 x476002 x476003 x476004 x476005 x476006).bind fun t607 => (if t607 = true then ((reeflaw16_awake.f k).bind fun t608 => (some t608)) else (none)))
end
def reeflaw16_LeadDoes.f (k : Nat) (a0_0 : Int) (a0_1 : Int) (a0_2 : Int) (l0_3 : List (S39)) (a0_4 : Bool) (a0_5 : ByteArray) (l0_6 : List Int) (a1_0 : Int) (a1_1 : Int) (a1_2 : Int) (l1_3 : List (S39)) (a1_4 : Bool) (a1_5 : ByteArray) (l1_6 : List Int) (a2 : ByteArray) (a3 : Int) (a4 : Int) : Option (Bool) := (lead_Same.f k a0_0 a0_1 a0_2 l0_3 a0_4 a0_5 l0_6 a1_0 a1_1 a1_2 l1_3 a1_4 a1_5 l1_6).bind fun t477 => ((reefref16_Same.f k a0_0 a0_1 a0_2 l0_3 a0_4 a0_5 l0_6 a1_0 a1_1 a1_2 l1_3 a1_4 a1_5 l1_6).bind fun t478 => (if (t477 != t478) = true then (none) else ((reefref16_Copy.f a0_0 a0_1 a0_2 l0_3 a0_4 a0_5 l0_6).bind fun bt479 => ((lead_Same.f k a0_0 a0_1 a0_2 l0_3 a0_4 a0_5 l0_6 bt479.1 bt479.2.1 bt479.2.2.1 bt479.2.2.2.1 bt479.2.2.2.2.1 bt479.2.2.2.2.2.1 bt479.2.2.2.2.2.2).bind fun t490 => (reeflaw16_LeadDoes.j0 k a2 a3 a4 (!t490) a0_0 a0_1 a0_2 l0_3 a0_4 a0_5 l0_6)))))
theorem reeflaw16_LeadDoes.mono_l : ∀ k, (∀ y0 y1 y2 y3 y4 y5 y6 y7 y8 y9 y10, LeO (reeflaw16_LeadDoes.j0 k y0 y1 y2 y3 y4 y5 y6 y7 y8 y9 y10) (reeflaw16_LeadDoes.j0 (k + 1) y0 y1 y2 y3 y4 y5 y6 y7 y8 y9 y10)) ∧ (∀ y0 y1 y2 y3 y4 y5 y6 y7 y8 y9 y10 y11 y12 y13 y14 y15, LeO (reeflaw16_LeadDoes.j1 k y0 y1 y2 y3 y4 y5 y6 y7 y8 y9 y10 y11 y12 y13 y14 y15) (reeflaw16_LeadDoes.j1 (k + 1) y0 y1 y2 y3 y4 y5 y6 y7 y8 y9 y10 y11 y12 y13 y14 y15)) ∧ (∀ y0 y1 y2 y3 y4 y5 y6 y7 y8 y9 y10 y11 y12 y13 y14 y15 y16, LeO (reeflaw16_LeadDoes.l0 k y0 y1 y2 y3 y4 y5 y6 y7 y8 y9 y10 y11 y12 y13 y14 y15 y16) (reeflaw16_LeadDoes.l0 (k + 1) y0 y1 y2 y3 y4 y5 y6 y7 y8 y9 y10 y11 y12 y13 y14 y15 y16))
 | 0 => ⟨fun _ _ _ _ _ _ _ _ _ _ _ r h => by simp [reeflaw16_LeadDoes.j0] at h, fun _ _ _ _ _ _ _ _ _ _ _ _ _ _ _ _ r h => by simp [reeflaw16_LeadDoes.j1] at h, fun _ _ _ _ _ _ _ _ _ _ _ _ _ _ _ _ _ r h => by simp [reeflaw16_LeadDoes.l0] at h⟩
 | k + 1 => by
  obtain ⟨ih0, ih1, ih2⟩ := reeflaw16_LeadDoes.mono_l k
  refine ⟨?_, ?_, ?_⟩
  ·intro y0 y1 y2 y3 y4 y5 y6 y7 y8 y9 y10
   unfold reeflaw16_LeadDoes.j0
   repeat' first
   | (with_reducible exact ih0 _ _ _ _ _ _ _ _ _ _ _)
   | (with_reducible exact ih1 _ _ _ _ _ _ _ _ _ _ _ _ _ _ _ _)
   | (with_reducible exact ih2 _ _ _ _ _ _ _ _ _ _ _ _ _ _ _ _ _)
   | (with_reducible exact lead_Ack.mono _ _ _ _ _ _ _ _ _)
   | (with_reducible exact lead_Same.mono _ _ _ _ _ _ _ _ _ _ _ _ _ _ _)
   | (with_reducible exact reeflaw16_awake.mono _)
   | (with_reducible exact reefref16_Ack.mono _ _ _ _ _ _ _ _ _)
   | (with_reducible exact reefref16_Rises.mono _ _ _ _ _ _ _ _)
   | (with_reducible exact reefref16_Same.mono _ _ _ _ _ _ _ _ _ _ _ _ _ _ _)
   | (with_reducible exact reefref16_Wait.mono _ _ _ _ _ _ _ _ _)
   | (with_reducible exact LeO.refl _)
   | (with_reducible exact LeO.none _)
   | (with_reducible refine LeO.ite ?_ ?_)
   | (with_reducible refine LeO.bind ?_ (fun _ => ?_))
   | exact ih0 _ _ _ _ _ _ _ _ _ _ _
   | exact ih1 _ _ _ _ _ _ _ _ _ _ _ _ _ _ _ _
   | exact ih2 _ _ _ _ _ _ _ _ _ _ _ _ _ _ _ _ _
   | exact lead_Ack.mono _ _ _ _ _ _ _ _ _
   | exact lead_Same.mono _ _ _ _ _ _ _ _ _ _ _ _ _ _ _
   | exact reeflaw16_awake.mono _
   | exact reefref16_Ack.mono _ _ _ _ _ _ _ _ _
   | exact reefref16_Rises.mono _ _ _ _ _ _ _ _
   | exact reefref16_Same.mono _ _ _ _ _ _ _ _ _ _ _ _ _ _ _
   | exact reefref16_Wait.mono _ _ _ _ _ _ _ _ _
   | exact LeO.none _
   | refine LeO.ite ?_ ?_
   | refine LeO.bind ?_ (fun _ => ?_)
  ·intro y0 y1 y2 y3 y4 y5 y6 y7 y8 y9 y10 y11 y12 y13 y14 y15
   unfold reeflaw16_LeadDoes.j1
   repeat' first
   | (with_reducible exact ih0 _ _ _ _ _ _ _ _ _ _ _)
   | (with_reducible exact ih1 _ _ _ _ _ _ _ _ _ _ _ _ _ _ _ _)
   | (with_reducible exact ih2 _ _ _ _ _ _ _ _ _ _ _ _ _ _ _ _ _)
   | (with_reducible exact lead_Ack.mono _ _ _ _ _ _ _ _ _)
   | (with_reducible exact lead_Same.mono _ _ _ _ _ _ _ _ _ _ _ _ _ _ _)
   | (with_reducible exact reeflaw16_awake.mono _)
   | (with_reducible exact reefref16_Ack.mono _ _ _ _ _ _ _ _ _)
   | (with_reducible exact reefref16_Rises.mono _ _ _ _ _ _ _ _)
   | (with_reducible exact reefref16_Same.mono _ _ _ _ _ _ _ _ _ _ _ _ _ _ _)
   | (with_reducible exact reefref16_Wait.mono _ _ _ _ _ _ _ _ _)
   | (with_reducible exact LeO.refl _)
   | (with_reducible exact LeO.none _)
   | (with_reducible refine LeO.ite ?_ ?_)
   | (with_reducible refine LeO.bind ?_ (fun _ => ?_))
   | exact ih0 _ _ _ _ _ _ _ _ _ _ _
   | exact ih1 _ _ _ _ _ _ _ _ _ _ _ _ _ _ _ _
   | exact ih2 _ _ _ _ _ _ _ _ _ _ _ _ _ _ _ _ _
   | exact lead_Ack.mono _ _ _ _ _ _ _ _ _
   | exact lead_Same.mono _ _ _ _ _ _ _ _ _ _ _ _ _ _ _
   | exact reeflaw16_awake.mono _
   | exact reefref16_Ack.mono _ _ _ _ _ _ _ _ _
   | exact reefref16_Rises.mono _ _ _ _ _ _ _ _
   | exact reefref16_Same.mono _ _ _ _ _ _ _ _ _ _ _ _ _ _ _
   | exact reefref16_Wait.mono _ _ _ _ _ _ _ _ _
   | exact LeO.none _
   | refine LeO.ite ?_ ?_
   | refine LeO.bind ?_ (fun _ => ?_)
  ·intro y0 y1 y2 y3 y4 y5 y6 y7 y8 y9 y10 y11 y12 y13 y14 y15 y16
   unfold reeflaw16_LeadDoes.l0
   repeat' first
   | (with_reducible exact ih0 _ _ _ _ _ _ _ _ _ _ _)
   | (with_reducible exact ih1 _ _ _ _ _ _ _ _ _ _ _ _ _ _ _ _)
   | (with_reducible exact ih2 _ _ _ _ _ _ _ _ _ _ _ _ _ _ _ _ _)
   | (with_reducible exact lead_Ack.mono _ _ _ _ _ _ _ _ _)
   | (with_reducible exact lead_Same.mono _ _ _ _ _ _ _ _ _ _ _ _ _ _ _)
   | (with_reducible exact reeflaw16_awake.mono _)
   | (with_reducible exact reefref16_Ack.mono _ _ _ _ _ _ _ _ _)
   | (with_reducible exact reefref16_Rises.mono _ _ _ _ _ _ _ _)
   | (with_reducible exact reefref16_Same.mono _ _ _ _ _ _ _ _ _ _ _ _ _ _ _)
   | (with_reducible exact reefref16_Wait.mono _ _ _ _ _ _ _ _ _)
   | (with_reducible exact LeO.refl _)
   | (with_reducible exact LeO.none _)
   | (with_reducible refine LeO.ite ?_ ?_)
   | (with_reducible refine LeO.bind ?_ (fun _ => ?_))
   | exact ih0 _ _ _ _ _ _ _ _ _ _ _
   | exact ih1 _ _ _ _ _ _ _ _ _ _ _ _ _ _ _ _
   | exact ih2 _ _ _ _ _ _ _ _ _ _ _ _ _ _ _ _ _
   | exact lead_Ack.mono _ _ _ _ _ _ _ _ _
   | exact lead_Same.mono _ _ _ _ _ _ _ _ _ _ _ _ _ _ _
   | exact reeflaw16_awake.mono _
   | exact reefref16_Ack.mono _ _ _ _ _ _ _ _ _
   | exact reefref16_Rises.mono _ _ _ _ _ _ _ _
   | exact reefref16_Same.mono _ _ _ _ _ _ _ _ _ _ _ _ _ _ _
   | exact reefref16_Wait.mono _ _ _ _ _ _ _ _ _
   | exact LeO.none _
   | refine LeO.ite ?_ ?_
   | refine LeO.bind ?_ (fun _ => ?_)
theorem reeflaw16_LeadDoes.mono : ∀ a0 a1 a2 a3 a4 a5 a6 a7 a8 a9 a10 a11 a12 a13 a14 a15 a16 k, LeO (reeflaw16_LeadDoes.f k a0 a1 a2 a3 a4 a5 a6 a7 a8 a9 a10 a11 a12 a13 a14 a15 a16) (reeflaw16_LeadDoes.f (k + 1) a0 a1 a2 a3 a4 a5 a6 a7 a8 a9 a10 a11 a12 a13 a14 a15 a16) := by
 intro a0 a1 a2 a3 a4 a5 a6 a7 a8 a9 a10 a11 a12 a13 a14 a15 a16 k
 obtain ⟨ih0, ih1, ih2⟩ := reeflaw16_LeadDoes.mono_l k
 unfold reeflaw16_LeadDoes.f
 repeat' first
   | (with_reducible exact ih0 _ _ _ _ _ _ _ _ _ _ _)
   | (with_reducible exact ih1 _ _ _ _ _ _ _ _ _ _ _ _ _ _ _ _)
   | (with_reducible exact ih2 _ _ _ _ _ _ _ _ _ _ _ _ _ _ _ _ _)
   | (with_reducible exact lead_Ack.mono _ _ _ _ _ _ _ _ _)
   | (with_reducible exact lead_Same.mono _ _ _ _ _ _ _ _ _ _ _ _ _ _ _)
   | (with_reducible exact reeflaw16_awake.mono _)
   | (with_reducible exact reefref16_Ack.mono _ _ _ _ _ _ _ _ _)
   | (with_reducible exact reefref16_Rises.mono _ _ _ _ _ _ _ _)
   | (with_reducible exact reefref16_Same.mono _ _ _ _ _ _ _ _ _ _ _ _ _ _ _)
   | (with_reducible exact reefref16_Wait.mono _ _ _ _ _ _ _ _ _)
   | (with_reducible exact LeO.refl _)
   | (with_reducible exact LeO.none _)
   | (with_reducible refine LeO.ite ?_ ?_)
   | (with_reducible refine LeO.bind ?_ (fun _ => ?_))
   | exact ih0 _ _ _ _ _ _ _ _ _ _ _
   | exact ih1 _ _ _ _ _ _ _ _ _ _ _ _ _ _ _ _
   | exact ih2 _ _ _ _ _ _ _ _ _ _ _ _ _ _ _ _ _
   | exact lead_Ack.mono _ _ _ _ _ _ _ _ _
   | exact lead_Same.mono _ _ _ _ _ _ _ _ _ _ _ _ _ _ _
   | exact reeflaw16_awake.mono _
   | exact reefref16_Ack.mono _ _ _ _ _ _ _ _ _
   | exact reefref16_Rises.mono _ _ _ _ _ _ _ _
   | exact reefref16_Same.mono _ _ _ _ _ _ _ _ _ _ _ _ _ _ _
   | exact reefref16_Wait.mono _ _ _ _ _ _ _ _ _
   | exact LeO.none _
   | refine LeO.ite ?_ ?_
   | refine LeO.bind ?_ (fun _ => ?_)
def reeflaw16_LeadDoes.T1 : Bool × List (List Nat × List Nat) := (true, [([], []), ([], []), ([0, 1], [0, 1]), ([], []), ([], []), ([3, 4, 2], [3, 4]), ([2, 5], [2, 5]), ([6, 5], [6]), ([7], [7]), ([7], [7]), ([9, 7, 7], [7, 9]), ([8, 10, 10, 7], [7, 8, 10]), ([11, 7], [7, 11]), ([7, 12], [7, 12])])
def reeflaw16_LeadDoes.B1 : List Nat := [0, 0, 3, 0, 0, 31, 63, 127, 255, 255, 767, 2047, 4095, 8191]
theorem reeflaw16_LeadDoes.tab1 : rtab .any (opsOf Try.f6 1) = reeflaw16_LeadDoes.T1 := by kernel_rfl
theorem reeflaw16_LeadDoes.bits1 : waitsOk reeflaw16_LeadDoes.T1.2 reeflaw16_LeadDoes.B1 = true := by kernel_rfl
def reeflaw16_LeadDoes.T6 : Bool × List (List Nat × List Nat) := (true, [([], []), ([0], [0]), ([], []), ([2, 1], [2]), ([1, 3, 3], [1, 3]), ([4], [4]), ([5, 4], [5]), ([6], [6]), ([6], [6]), ([6], [6]), ([7, 8, 9, 6, 6], [6, 7, 8, 9]), ([6], [6]), ([6], [6]), ([6], [6]), ([11, 12, 13, 10, 6], [6, 11, 12, 13]), ([10, 14, 14, 6], [6, 10, 14]), ([15, 6], [6, 15]), ([6, 16], [6, 16]), ([17, 15], [17]), ([18], [18]), ([18], [18]), ([19, 20, 18, 18], [18, 19, 20]), ([18], [18]), ([18], [18]), ([22, 23, 21, 18], [18, 22, 23]), ([21, 24, 24, 18], [18, 21, 24]), ([25, 18], [18, 25]), ([18, 26], [18, 26]), ([27, 25], [27]), ([28], [28]), ([29, 28, 28], [28, 29]), ([28], [28]), ([31, 30, 28], [28, 31]), ([30, 32, 32, 28], [28, 30, 32]), ([33, 28], [28, 33]), ([28, 34], [28, 34]), ([35, 33], [35]), ([36], [36]), ([36], [36]), ([37, 38, 36, 36], [36, 37, 38]), ([36], [36]), ([36], [36]), ([40, 41, 39, 36], [36, 40, 41]), ([39, 42, 36], [36, 39, 42]), ([36, 43], [36, 43])])
def reeflaw16_LeadDoes.B6 : List Nat := [0, 1, 0, 7, 15, 31, 63, 127, 127, 127, 1023, 127, 127, 127, 16383, 32767, 65535, 131071, 262143, 524287, 524287, 2097151, 524287, 524287, 16777215, 33554431, 67108863, 134217727, 268435455, 536870911, 1073741823, 536870911, 4294967295, 8589934591, 17179869183, 34359738367, 68719476735, 137438953471, 137438953471, 549755813887, 137438953471, 137438953471, 4398046511103, 8796093022207, 17592186044415]
theorem reeflaw16_LeadDoes.tab6 : rtab .any (opsOf Try.f6 6) = reeflaw16_LeadDoes.T6 := by kernel_rfl
theorem reeflaw16_LeadDoes.bits6 : waitsOk reeflaw16_LeadDoes.T6.2 reeflaw16_LeadDoes.B6 = true := by kernel_rfl
def reeflaw16_LeadDoes.T15 : Bool × List (List Nat × List Nat) := (true, [([], []), ([], []), ([0, 1], [0, 1]), ([2], [2]), ([], []), ([], []), ([4, 5], [4, 5]), ([6], [6]), ([3, 7], [3, 7])])
def reeflaw16_LeadDoes.B15 : List Nat := [0, 0, 3, 7, 0, 0, 48, 112, 255]
theorem reeflaw16_LeadDoes.tab15 : rtab .any (opsOf Try.f6 15) = reeflaw16_LeadDoes.T15 := by kernel_rfl
theorem reeflaw16_LeadDoes.bits15 : waitsOk reeflaw16_LeadDoes.T15.2 reeflaw16_LeadDoes.B15 = true := by kernel_rfl
set_option maxHeartbeats 8000000 in
set_option maxRecDepth 100000 in
theorem reeflaw16_LeadDoes.calls (k : Nat) (a0_0 : Int) (a0_1 : Int) (a0_2 : Int) (A0_3 : Option Addr) (c0_3 : Nat) (l0_3 : List (S39)) (a0_4 : Bool) (a0_5 : ByteArray) (A0_6 : Option Addr) (c0_6 : Nat) (l0_6 : List Int) (a1_0 : Int) (a1_1 : Int) (a1_2 : Int) (A1_3 : Option Addr) (c1_3 : Nat) (l1_3 : List (S39)) (a1_4 : Bool) (a1_5 : ByteArray) (A1_6 : Option Addr) (c1_6 : Nat) (l1_6 : List Int) (a2 : ByteArray) (a3 : Int) (a4 : Int) (r : Bool) (w : World) (hr0_3 : Kd.C k39 w A0_3 l0_3.length l0_3) (hc0_3 : l0_3.length ≤ c0_3) (hr0_6 : Kd.C (Kd.int .i64) w A0_6 l0_6.length l0_6) (hc0_6 : l0_6.length ≤ c0_6) (hr1_3 : Kd.C k39 w A1_3 l1_3.length l1_3) (hc1_3 : l1_3.length ≤ c1_3) (hr1_6 : Kd.C (Kd.int .i64) w A1_6 l1_6.length l1_6) (hc1_6 : l1_6.length ≤ c1_6) (h : reeflaw16_LeadDoes.f k a0_0 a0_1 a0_2 l0_3 a0_4 a0_5 l0_6 a1_0 a1_1 a1_2 l1_3 a1_4 a1_5 l1_6 a2 a3 a4 = some r) :
  Calls Try.prog 6 #[.agg #[.int .i64 a0_0, .int .i64 a0_1, .int .i64 a0_2, .slice A0_3 l0_3.length c0_3, .bool a0_4, .string a0_5, .slice A0_6 l0_6.length c0_6], .agg #[.int .i64 a1_0, .int .i64 a1_1, .int .i64 a1_2, .slice A1_3 l1_3.length c1_3, .bool a1_4, .string a1_5, .slice A1_6 l1_6.length c1_6], .string a2, .int .i64 a3, .int .i64 a4] w fun e w' => e = .returned (.bool r) ∧ Below w.heap.size w w' := by
 have hu37 := Try.underlying37
 have HR0_3 := Aside0.mk hr0_3
 have HC0_3 := Aside0.mk hc0_3
 clear hr0_3 hc0_3
 have HR0_6 := Aside0.mk hr0_6
 have HC0_6 := Aside0.mk hc0_6
 clear hr0_6 hc0_6
 have HR1_3 := Aside0.mk hr1_3
 have HC1_3 := Aside0.mk hc1_3
 clear hr1_3 hc1_3
 have HR1_6 := Aside0.mk hr1_6
 have HC1_6 := Aside0.mk hc1_6
 clear hr1_6 hc1_6
 have HB := Aside0.mk (Below.refl w.heap.size w)
 have H : ((lead_Same.f k a0_0 a0_1 a0_2 l0_3 a0_4 a0_5 l0_6 a1_0 a1_1 a1_2 l1_3 a1_4 a1_5 l1_6).bind fun t477 => ((reefref16_Same.f k a0_0 a0_1 a0_2 l0_3 a0_4 a0_5 l0_6 a1_0 a1_1 a1_2 l1_3 a1_4 a1_5 l1_6).bind fun t478 => (if (t477 != t478) = true then (none) else ((reefref16_Copy.f a0_0 a0_1 a0_2 l0_3 a0_4 a0_5 l0_6).bind fun bt479 => ((lead_Same.f k a0_0 a0_1 a0_2 l0_3 a0_4 a0_5 l0_6 bt479.1 bt479.2.1 bt479.2.2.1 bt479.2.2.2.1 bt479.2.2.2.2.1 bt479.2.2.2.2.2.1 bt479.2.2.2.2.2.2).bind fun t490 => (reeflaw16_LeadDoes.j0 k a2 a3 a4 (!t490) a0_0 a0_1 a0_2 l0_3 a0_4 a0_5 l0_6)))))) = some r := h
 clear h
 have HC6 := Aside0.mk H
 clear H
 go_enter Try.func6, Try.ntmps6
 go_upto_region 1 with (first | ((with_reducible refine gate_dst (N := 5) rfl ?_); refine box_event ?hg (N := 5) ?hd (cs := #[.int .i64 a0_0, .int .i64 a0_1, .int .i64 a0_2, .slice A0_3 l0_3.length c0_3, .bool a0_4, .string a0_5, .slice A0_6 l0_6.length c0_6]) (t := 37) ?hr ?_; (case hd => rfl); (case hg => rfl); (case hr => first | (go_simp; done) | (go_simp; rfl)); intro gb475 hg w7 hbox hb; have n0_ := Aside0.mk (below_step (bel HB.out) hb); have n1_ := Aside0.mk (hbox); have n2_ := Aside0.mk ((by rw [hg]; exact (below_size (bel HB.out)) : w.heap.size ≤ gb475)); have n3_ := n2_; clear HB; have HB := n0_; have BK475 := n1_; have GW475 := n2_; have GE475 := n3_; clear n0_ n1_ n2_ n3_; clear hb hbox hg) | ((with_reducible refine gate_dst (N := 6) rfl ?_); refine box_event ?hg (N := 6) ?hd (cs := #[.int .i64 a1_0, .int .i64 a1_1, .int .i64 a1_2, .slice A1_3 l1_3.length c1_3, .bool a1_4, .string a1_5, .slice A1_6 l1_6.length c1_6]) (t := 37) ?hr ?_; (case hd => rfl); (case hg => rfl); (case hr => first | (go_simp; done) | (go_simp; rfl)); intro gb476 hg w8 hbox hb; have n0_ := Aside0.mk (blk_below (g := gb475) (o := .cells #[.int .i64 a0_0, .int .i64 a0_1, .int .i64 a0_2, .slice A0_3 l0_3.length c0_3, .bool a0_4, .string a0_5, .slice A0_6 l0_6.length c0_6] 37 (0, 0)) (bup BK475.out) hb); have n1_ := Aside0.mk (below_step (bel HB.out) hb); have n2_ := Aside0.mk (hbox); have n3_ := Aside0.mk ((by rw [hg]; exact (below_size (bel HB.out)) : w.heap.size ≤ gb476)); have n4_ := n3_; have n5_ := Aside0.mk ((by rw [hg]; exact Nat.ne_of_lt (blk_lt (g := gb475) (o := .cells #[.int .i64 a0_0, .int .i64 a0_1, .int .i64 a0_2, .slice A0_3 l0_3.length c0_3, .bool a0_4, .string a0_5, .slice A0_6 l0_6.length c0_6] 37 (0, 0)) (bup BK475.out)) : gb475 ≠ gb476)); have n6_ := Aside0.mk ((by rw [hg]; exact Nat.ne_of_gt (blk_lt (g := gb475) (o := .cells #[.int .i64 a0_0, .int .i64 a0_1, .int .i64 a0_2, .slice A0_3 l0_3.length c0_3, .bool a0_4, .string a0_5, .slice A0_6 l0_6.length c0_6] 37 (0, 0)) (bup BK475.out)) : gb476 ≠ gb475)); clear BK475; clear HB; have BK475 := n0_; have HB := n1_; have BK476 := n2_; have GW476 := n3_; have GE476 := n4_; have NB475_476 := n5_; have NB476_475 := n6_; clear n0_ n1_ n2_ n3_ n4_ n5_ n6_; clear hb hbox hg))
 (try simp only [Act.put, List.setIfInBounds_toArray, List.set_cons_zero, List.set_cons_succ])
 go_cut [28] (fun v28 wc => ∃ (kq : Nat) (x28_5 : Bool), v28 = .bool x28_5 ∧ Aside0 (reeflaw16_LeadDoes.j0 kq a2 a3 a4 x28_5 a0_0 a0_1 a0_2 l0_3 a0_4 a0_5 l0_6 = some r) ∧ Aside0 (kq ≤ k) ∧ Aside0 (wc.heap[gb475]? = some (.cells #[.int .i64 a0_0, .int .i64 a0_1, .int .i64 a0_2, (.slice A0_3 l0_3.length c0_3), .bool a0_4, .string a0_5, (.slice A0_6 l0_6.length c0_6)] 37 (0, 0))) ∧ Aside0 (wc.heap[gb476]? = some (.cells #[.int .i64 a1_0, .int .i64 a1_1, .int .i64 a1_2, (.slice A1_3 l1_3.length c1_3), .bool a1_4, .string a1_5, (.slice A1_6 l1_6.length c1_6)] 37 (0, 0))) ∧ Aside0 (Below w.heap.size w wc))
 case first =>
  have H := HC6.out
  clear HC6
  replace H := Option.bind_eq_some_iff.mp H
  obtain ⟨t477, A90, H⟩ := H
  replace H : ((reefref16_Same.f k a0_0 a0_1 a0_2 l0_3 a0_4 a0_5 l0_6 a1_0 a1_1 a1_2 l1_3 a1_4 a1_5 l1_6).bind fun t478 => (if (t477 != t478) = true then (none) else ((reefref16_Copy.f a0_0 a0_1 a0_2 l0_3 a0_4 a0_5 l0_6).bind fun bt479 => ((lead_Same.f k a0_0 a0_1 a0_2 l0_3 a0_4 a0_5 l0_6 bt479.1 bt479.2.1 bt479.2.2.1 bt479.2.2.2.1 bt479.2.2.2.2.1 bt479.2.2.2.2.2.1 bt479.2.2.2.2.2.2).bind fun t490 => (reeflaw16_LeadDoes.j0 k a2 a3 a4 (!t490) a0_0 a0_1 a0_2 l0_3 a0_4 a0_5 l0_6))))) = some r := H
  have A9 := Aside0.mk A90
  clear A90
  replace H := Option.bind_eq_some_iff.mp H
  obtain ⟨t478, A100, H⟩ := H
  replace H : (if (t477 != t478) = true then (none) else ((reefref16_Copy.f a0_0 a0_1 a0_2 l0_3 a0_4 a0_5 l0_6).bind fun bt479 => ((lead_Same.f k a0_0 a0_1 a0_2 l0_3 a0_4 a0_5 l0_6 bt479.1 bt479.2.1 bt479.2.2.1 bt479.2.2.2.1 bt479.2.2.2.2.1 bt479.2.2.2.2.2.1 bt479.2.2.2.2.2.2).bind fun t490 => (reeflaw16_LeadDoes.j0 k a2 a3 a4 (!t490) a0_0 a0_1 a0_2 l0_3 a0_4 a0_5 l0_6)))) = some r := H
  have A10 := Aside0.mk A100
  clear A100
  by_cases c11 : (t477 != t478) = true
  ·rw [if_pos c11] at H
   exact absurd H (by simp)
  ·rw [if_neg c11] at H
   have c11b0 : (t477 != t478) = false := by simpa using c11
   (try (have c11b1 : decide (t477 = t478) = true := by simpa using c11))
   (try (have c11b2 : (t477 == t478) = true := by simpa using c11))
   clear c11
   (first | rw [c11b0] | (simp only [i64_w, i32_w]; rw [c11b0]) | skip)
   replace H := Option.bind_eq_some_iff.mp H
   obtain ⟨⟨t479, t480, t481, t482, t485, t486, t487⟩, A120, H⟩ := H
   replace H : ((lead_Same.f k a0_0 a0_1 a0_2 l0_3 a0_4 a0_5 l0_6 t479 t480 t481 t482 t485 t486 t487).bind fun t490 => (reeflaw16_LeadDoes.j0 k a2 a3 a4 (!t490) a0_0 a0_1 a0_2 l0_3 a0_4 a0_5 l0_6)) = some r := H
   have A12 := Aside0.mk A120
   clear A120
   replace H := Option.bind_eq_some_iff.mp H
   obtain ⟨t490, A130, H⟩ := H
   replace H : (reeflaw16_LeadDoes.j0 k a2 a3 a4 (!t490) a0_0 a0_1 a0_2 l0_3 a0_4 a0_5 l0_6) = some r := H
   have A13 := Aside0.mk A130
   clear A130
   have H' := Aside0.mk H
   clear H
   try go_wp2
   have n0_ := Aside0.mk (blk_drew BK475.out)
   have n1_ := Aside0.mk (blk_drew BK476.out)
   have n2_ := Aside0.mk (below_drew1 HB.out)
   clear BK475
   clear BK476
   clear HB
   have BK475 := n0_
   have BK476 := n1_
   have HB := n2_
   clear n0_ n1_ n2_
   refine start_ (n := 14) (S := fun w' => w'.cell? ⟨gb475, 0, none⟩ = some (.int .i64 a0_0) ∧ w'.cell? ⟨gb475, 1, none⟩ = some (.int .i64 a0_1) ∧ w'.cell? ⟨gb475, 2, none⟩ = some (.int .i64 a0_2) ∧ w'.cell? ⟨gb475, 3, none⟩ = some (.slice A0_3 l0_3.length c0_3) ∧ w'.cell? ⟨gb475, 4, none⟩ = some (.bool a0_4) ∧ w'.cell? ⟨gb475, 5, none⟩ = some (.string a0_5) ∧ w'.cell? ⟨gb475, 6, none⟩ = some (.slice A0_6 l0_6.length c0_6) ∧ w'.cell? ⟨gb476, 0, none⟩ = some (.int .i64 a1_0) ∧ w'.cell? ⟨gb476, 1, none⟩ = some (.int .i64 a1_1) ∧ w'.cell? ⟨gb476, 2, none⟩ = some (.int .i64 a1_2) ∧ w'.cell? ⟨gb476, 3, none⟩ = some (.slice A1_3 l1_3.length c1_3) ∧ w'.cell? ⟨gb476, 4, none⟩ = some (.bool a1_4) ∧ w'.cell? ⟨gb476, 5, none⟩ = some (.string a1_5) ∧ w'.cell? ⟨gb476, 6, none⟩ = some (.slice A1_6 l1_6.length c1_6)) (ds := []) #[false, false, false, false, false, false, false, false, false, false, false, false, false, false] (by kernel_rfl) rfl rfl ⟨(blk_cell BK475.out 0).trans rfl, (blk_cell BK475.out 1).trans rfl, (blk_cell BK475.out 2).trans rfl, (blk_cell BK475.out 3).trans rfl, (blk_cell BK475.out 4).trans rfl, (blk_cell BK475.out 5).trans rfl, (blk_cell BK475.out 6).trans rfl, (blk_cell BK476.out 0).trans rfl, (blk_cell BK476.out 1).trans rfl, (blk_cell BK476.out 2).trans rfl, (blk_cell BK476.out 3).trans rfl, (blk_cell BK476.out 4).trans rfl, (blk_cell BK476.out 5).trans rfl, (blk_cell BK476.out 6).trans rfl⟩ (fun hHeld => ?_); refine with_tabW reeflaw16_LeadDoes.tab1 reeflaw16_LeadDoes.bits1 (fun HT_ HW_ => ?_)
   generalize w8.drew = w14 at BK475 BK476 HB hHeld ⊢
   refine take_ (i := 0) (N := some 15) (v := ?_) (a' := ?_) #[true, false, false, false, false, false, false, false, false, false, false, false, false, false] rfl rfl (take_ofW HT_.out HW_.out (by kernel_rfl)) (fun _ _ _ h => h) (Or.inl ⟨by rfl, ?_⟩) hHeld ?_ ?_
   rotate_left
   ·rintro w' ⟨s0, s1, s2, s3, s4, s5, s6, s7, s8, s9, s10, s11, s12, s13⟩
    go_simp
    with_reducible rfl
   rotate_left
   ·simp only [Act.put, List.setIfInBounds_toArray, List.set_cons_zero, List.set_cons_succ, i64_w, i32_w]
    rfl
   refine take_ (i := 1) (N := some 16) (v := ?_) (a' := ?_) #[true, true, false, false, false, false, false, false, false, false, false, false, false, false] rfl rfl (take_ofW HT_.out HW_.out (by kernel_rfl)) (fun _ _ _ h => h) (Or.inl ⟨by rfl, ?_⟩) hHeld ?_ ?_
   rotate_left
   ·rintro w' ⟨s0, s1, s2, s3, s4, s5, s6, s7, s8, s9, s10, s11, s12, s13⟩
    go_simp
    with_reducible rfl
   rotate_left
   ·simp only [Act.put, List.setIfInBounds_toArray, List.set_cons_zero, List.set_cons_succ, i64_w, i32_w]
    rfl
   refine take_ (i := 3) (N := some 18) (v := ?_) (a' := ?_) #[true, true, false, true, false, false, false, false, false, false, false, false, false, false] rfl rfl (take_ofW HT_.out HW_.out (by kernel_rfl)) (fun _ _ _ h => h) (Or.inl ⟨by rfl, ?_⟩) hHeld ?_ ?_
   rotate_left
   ·rintro w' ⟨s0, s1, s2, s3, s4, s5, s6, s7, s8, s9, s10, s11, s12, s13⟩
    go_simp
    with_reducible rfl
   rotate_left
   ·simp only [Act.put, List.setIfInBounds_toArray, List.set_cons_zero, List.set_cons_succ, i64_w, i32_w]
    rfl
   refine take_ (i := 4) (N := some 19) (v := ?_) (a' := ?_) #[true, true, false, true, true, false, false, false, false, false, false, false, false, false] rfl rfl (take_ofW HT_.out HW_.out (by kernel_rfl)) (fun _ _ _ h => h) (Or.inl ⟨by rfl, ?_⟩) hHeld ?_ ?_
   rotate_left
   ·rintro w' ⟨s0, s1, s2, s3, s4, s5, s6, s7, s8, s9, s10, s11, s12, s13⟩
    go_simp
    with_reducible rfl
   rotate_left
   ·simp only [Act.put, List.setIfInBounds_toArray, List.set_cons_zero, List.set_cons_succ, i64_w, i32_w]
    rfl
   refine one_ (i := 2) (N := some 17) #[true, true, true, true, true, false, false, false, false, false, false, false, false, false] rfl rfl (one_of HT_.out (by kernel_rfl)) (by decide) (fun K hK => ?_)
   refine goes_ Try.func14 (by kernel_rfl) rfl #[.agg #[.int .i64 a0_0, .int .i64 a0_1, .int .i64 a0_2, .slice A0_3 l0_3.length c0_3, .bool a0_4, .string a0_5, .slice A0_6 l0_6.length c0_6], .agg #[.int .i64 a1_0, .int .i64 a1_1, .int .i64 a1_2, .slice A1_3 l1_3.length c1_3, .bool a1_4, .string a1_5, .slice A1_6 l1_6.length c1_6]] (by rfl) rfl rfl (by (try simp only [List.map_toArray, List.map_cons, List.map_nil]); first | done | rfl | (simp only [List.length_drop, List.length_take]; rfl)) ?_
   with_reducible refine (lead_Same.calls k a0_0 a0_1 a0_2 _ _ l0_3 a0_4 a0_5 _ _ l0_6 a1_0 a1_1 a1_2 _ _ l1_3 a1_4 a1_5 _ _ l1_6 t477 _ ?side1 ?side2 ?side3 ?side4 ?side5 ?side6 ?side7 ?side8 A9.out).mono ?_
   (case side1 => exact Kd.C_up (Kd.C_below HR0_3.out HB.out))
   (case side2 => exact HC0_3.out)
   (case side3 => exact Kd.C_up (Kd.C_below HR0_6.out HB.out))
   (case side4 => exact HC0_6.out)
   (case side5 => exact Kd.C_up (Kd.C_below HR1_3.out HB.out))
   (case side6 => exact HC1_3.out)
   (case side7 => exact Kd.C_up (Kd.C_below HR1_6.out HB.out))
   (case side8 => exact HC1_6.out)
   rintro e w15 ⟨rfl, hb⟩
   refine ⟨_, rfl, ?_⟩
   have n0_ := Aside0.mk (blk_below (g := gb475) (o := .cells #[.int .i64 a0_0, .int .i64 a0_1, .int .i64 a0_2, .slice A0_3 l0_3.length c0_3, .bool a0_4, .string a0_5, .slice A0_6 l0_6.length c0_6] 37 (0, 0)) (bup BK475.out) hb)
   have n1_ := Aside0.mk (blk_below (g := gb476) (o := .cells #[.int .i64 a1_0, .int .i64 a1_1, .int .i64 a1_2, .slice A1_3 l1_3.length c1_3, .bool a1_4, .string a1_5, .slice A1_6 l1_6.length c1_6] 37 (0, 0)) (bup BK476.out) hb)
   have n2_ := Aside0.mk (below_step (bel HB.out) hb)
   clear BK475
   clear BK476
   clear HB
   have BK475 := n0_
   have BK476 := n1_
   have HB := n2_
   clear n0_ n1_ n2_
   (try clear hb)
   (try clear hb2)
   (try clear hk)
   (try clear hi)
   refine hK.out _ _ ⟨(blk_cell BK475.out 0).trans rfl, (blk_cell BK475.out 1).trans rfl, (blk_cell BK475.out 2).trans rfl, (blk_cell BK475.out 3).trans rfl, (blk_cell BK475.out 4).trans rfl, (blk_cell BK475.out 5).trans rfl, (blk_cell BK475.out 6).trans rfl, (blk_cell BK476.out 0).trans rfl, (blk_cell BK476.out 1).trans rfl, (blk_cell BK476.out 2).trans rfl, (blk_cell BK476.out 3).trans rfl, (blk_cell BK476.out 4).trans rfl, (blk_cell BK476.out 5).trans rfl, (blk_cell BK476.out 6).trans rfl⟩ (fun hHeld => ?_)
   clear hK K
   refine norm_ (a' := ?_) ?_ ?_
   rotate_left
   ·show Act.put _ (some 17) _ = _
    simp only [Act.put, List.setIfInBounds_toArray, List.set_cons_zero, List.set_cons_succ, i64_w, i32_w]
    rfl
   refine one_ (i := 5) (N := some 20) #[true, true, true, true, true, true, false, false, false, false, false, false, false, false] rfl rfl (one_of HT_.out (by kernel_rfl)) (by decide) (fun K hK => ?_)
   refine goes_ Try.func19 (by kernel_rfl) rfl #[.agg #[.int .i64 a0_0, .int .i64 a0_1, .int .i64 a0_2, .slice A0_3 l0_3.length c0_3, .bool a0_4, .string a0_5, .slice A0_6 l0_6.length c0_6], .agg #[.int .i64 a1_0, .int .i64 a1_1, .int .i64 a1_2, .slice A1_3 l1_3.length c1_3, .bool a1_4, .string a1_5, .slice A1_6 l1_6.length c1_6]] (by rfl) rfl rfl (by (try simp only [List.map_toArray, List.map_cons, List.map_nil]); first | done | rfl | (simp only [List.length_drop, List.length_take]; rfl)) ?_
   with_reducible refine (reefref16_Same.calls k a0_0 a0_1 a0_2 _ _ l0_3 a0_4 a0_5 _ _ l0_6 a1_0 a1_1 a1_2 _ _ l1_3 a1_4 a1_5 _ _ l1_6 t478 _ ?side1 ?side2 ?side3 ?side4 ?side5 ?side6 ?side7 ?side8 A10.out).mono ?_
   (case side1 => exact Kd.C_up (Kd.C_below HR0_3.out HB.out))
   (case side2 => exact HC0_3.out)
   (case side3 => exact Kd.C_up (Kd.C_below HR0_6.out HB.out))
   (case side4 => exact HC0_6.out)
   (case side5 => exact Kd.C_up (Kd.C_below HR1_3.out HB.out))
   (case side6 => exact HC1_3.out)
   (case side7 => exact Kd.C_up (Kd.C_below HR1_6.out HB.out))
   (case side8 => exact HC1_6.out)
   rintro e w16 ⟨rfl, hb⟩
   refine ⟨_, rfl, ?_⟩
   have n0_ := Aside0.mk (blk_below (g := gb475) (o := .cells #[.int .i64 a0_0, .int .i64 a0_1, .int .i64 a0_2, .slice A0_3 l0_3.length c0_3, .bool a0_4, .string a0_5, .slice A0_6 l0_6.length c0_6] 37 (0, 0)) (bup BK475.out) hb)
   have n1_ := Aside0.mk (blk_below (g := gb476) (o := .cells #[.int .i64 a1_0, .int .i64 a1_1, .int .i64 a1_2, .slice A1_3 l1_3.length c1_3, .bool a1_4, .string a1_5, .slice A1_6 l1_6.length c1_6] 37 (0, 0)) (bup BK476.out) hb)
   have n2_ := Aside0.mk (below_step (bel HB.out) hb)
   clear BK475
   clear BK476
   clear HB
   have BK475 := n0_
   have BK476 := n1_
   have HB := n2_
   clear n0_ n1_ n2_
   (try clear hb)
   (try clear hb2)
   (try clear hk)
   (try clear hi)
   refine hK.out _ _ ⟨(blk_cell BK475.out 0).trans rfl, (blk_cell BK475.out 1).trans rfl, (blk_cell BK475.out 2).trans rfl, (blk_cell BK475.out 3).trans rfl, (blk_cell BK475.out 4).trans rfl, (blk_cell BK475.out 5).trans rfl, (blk_cell BK475.out 6).trans rfl, (blk_cell BK476.out 0).trans rfl, (blk_cell BK476.out 1).trans rfl, (blk_cell BK476.out 2).trans rfl, (blk_cell BK476.out 3).trans rfl, (blk_cell BK476.out 4).trans rfl, (blk_cell BK476.out 5).trans rfl, (blk_cell BK476.out 6).trans rfl⟩ (fun hHeld => ?_)
   clear hK K
   refine norm_ (a' := ?_) ?_ ?_
   rotate_left
   ·show Act.put _ (some 20) _ = _
    simp only [Act.put, List.setIfInBounds_toArray, List.set_cons_zero, List.set_cons_succ, i64_w, i32_w]
    rfl
   refine pure_ (i := 6) (N := some 21) (v := ?_) (a' := ?_) #[true, true, true, true, true, true, true, false, false, false, false, false, false, false] rfl rfl (any_of HT_.out (by kernel_rfl)) (fun _ _ _ h => h) (Or.inl ⟨by rfl, ?_⟩) ?_ ?_
   rotate_left
   ·intro w'
    go_simp
    with_reducible rfl
   rotate_left
   ·simp only [Act.put, List.setIfInBounds_toArray, List.set_cons_zero, List.set_cons_succ, i64_w, i32_w]
    rfl
   refine pure_ (i := 7) (N := some 22) (v := ?_) (a' := ?_) #[true, true, true, true, true, true, true, true, false, false, false, false, false, false] rfl rfl (any_of HT_.out (by kernel_rfl)) (fun _ _ _ h => h) (Or.inl ⟨by rfl, ?_⟩) ?_ ?_
   rotate_left
   ·intro w'
    go_simp
    with_reducible rfl
   rotate_left
   ·simp only [Act.put, List.setIfInBounds_toArray, List.set_cons_zero, List.set_cons_succ, i64_w, i32_w]
    rfl
   refine take_ (i := 8) (N := some 23) (v := ?_) (a' := ?_) #[true, true, true, true, true, true, true, true, true, false, false, false, false, false] rfl rfl (take_ofW HT_.out HW_.out (by kernel_rfl)) (fun _ _ _ h => h) (Or.inl ⟨by rfl, ?_⟩) hHeld ?_ ?_
   rotate_left
   ·rintro w' ⟨s0, s1, s2, s3, s4, s5, s6, s7, s8, s9, s10, s11, s12, s13⟩
    go_simp
    with_reducible rfl
   rotate_left
   ·simp only [Act.put, List.setIfInBounds_toArray, List.set_cons_zero, List.set_cons_succ, i64_w, i32_w]
    rfl
   refine take_ (i := 9) (N := some 24) (v := ?_) (a' := ?_) #[true, true, true, true, true, true, true, true, true, true, false, false, false, false] rfl rfl (take_ofW HT_.out HW_.out (by kernel_rfl)) (fun _ _ _ h => h) (Or.inl ⟨by rfl, ?_⟩) hHeld ?_ ?_
   rotate_left
   ·rintro w' ⟨s0, s1, s2, s3, s4, s5, s6, s7, s8, s9, s10, s11, s12, s13⟩
    go_simp
    with_reducible rfl
   rotate_left
   ·simp only [Act.put, List.setIfInBounds_toArray, List.set_cons_zero, List.set_cons_succ, i64_w, i32_w]
    rfl
   refine one_ (i := 10) (N := some 25) #[true, true, true, true, true, true, true, true, true, true, true, false, false, false] rfl rfl (one_of HT_.out (by kernel_rfl)) (by decide) (fun K hK => ?_)
   refine goes_ Try.func18 (by kernel_rfl) rfl #[.agg #[.int .i64 a0_0, .int .i64 a0_1, .int .i64 a0_2, .slice A0_3 l0_3.length c0_3, .bool a0_4, .string a0_5, .slice A0_6 l0_6.length c0_6]] (by rfl) rfl rfl (by (try simp only [List.map_toArray, List.map_cons, List.map_nil]); first | done | rfl | (simp only [List.length_drop, List.length_take]; rfl)) ?_
   with_reducible refine (reefref16_Copy.calls a0_0 a0_1 a0_2 _ _ l0_3 a0_4 a0_5 _ _ l0_6 t479 t480 t481 t482 t485 t486 t487 _ ?side1 ?side2 ?side3 ?side4 A12.out).mono ?_
   (case side1 => exact Kd.C_up (Kd.C_below HR0_3.out HB.out))
   (case side2 => exact HC0_3.out)
   (case side3 => exact Kd.C_up (Kd.C_below HR0_6.out HB.out))
   (case side4 => exact HC0_6.out)
   rintro e w17 ⟨v483, v488, rfl, ho0, ho1, hb⟩
   refine ⟨_, rfl, ?_⟩
   have n0_ := Aside0.mk (Kd.R_lower ho0 (below_size (bel HB.out)))
   have n1_ := Aside0.mk (Kd.R_lower ho1 (below_size (bel HB.out)))
   have n2_ := Aside0.mk (blk_below (g := gb475) (o := .cells #[.int .i64 a0_0, .int .i64 a0_1, .int .i64 a0_2, .slice A0_3 l0_3.length c0_3, .bool a0_4, .string a0_5, .slice A0_6 l0_6.length c0_6] 37 (0, 0)) (bup BK475.out) hb)
   have n3_ := Aside0.mk (blk_below (g := gb476) (o := .cells #[.int .i64 a1_0, .int .i64 a1_1, .int .i64 a1_2, .slice A1_3 l1_3.length c1_3, .bool a1_4, .string a1_5, .slice A1_6 l1_6.length c1_6] 37 (0, 0)) (bup BK476.out) hb)
   have n4_ := Aside0.mk (below_step (bel HB.out) hb)
   clear BK475
   clear BK476
   clear HB
   have HO484 := n0_
   have HO489 := n1_
   have BK475 := n2_
   have BK476 := n3_
   have HB := n4_
   clear n0_ n1_ n2_ n3_ n4_
   (try clear hb)
   (try clear hb2)
   (try clear hk)
   (try clear hi)
   (try clear ho0)
   (try clear ho1)
   obtain ⟨Ao18, co18, eo18⟩ := Kd.R_slice HO484.out
   (first | subst eo18 | (injection eo18 with f1_ f2_ f3_; have f4_ := f1_.symm; have f5_ := f3_.symm; clear f1_ f2_ f3_; subst f4_; subst f5_))
   obtain ⟨Ao19, co19, eo19⟩ := Kd.R_slice HO489.out
   (first | subst eo19 | (injection eo19 with f1_ f2_ f3_; have f4_ := f1_.symm; have f5_ := f3_.symm; clear f1_ f2_ f3_; subst f4_; subst f5_))
   refine hK.out _ _ ⟨(blk_cell BK475.out 0).trans rfl, (blk_cell BK475.out 1).trans rfl, (blk_cell BK475.out 2).trans rfl, (blk_cell BK475.out 3).trans rfl, (blk_cell BK475.out 4).trans rfl, (blk_cell BK475.out 5).trans rfl, (blk_cell BK475.out 6).trans rfl, (blk_cell BK476.out 0).trans rfl, (blk_cell BK476.out 1).trans rfl, (blk_cell BK476.out 2).trans rfl, (blk_cell BK476.out 3).trans rfl, (blk_cell BK476.out 4).trans rfl, (blk_cell BK476.out 5).trans rfl, (blk_cell BK476.out 6).trans rfl⟩ (fun hHeld => ?_)
   clear hK K
   refine norm_ (a' := ?_) ?_ ?_
   rotate_left
   ·show Act.put _ (some 25) _ = _
    simp only [Act.put, List.setIfInBounds_toArray, List.set_cons_zero, List.set_cons_succ, i64_w, i32_w]
    rfl
   refine one_ (i := 11) (N := some 26) #[true, true, true, true, true, true, true, true, true, true, true, true, false, false] rfl rfl (one_of HT_.out (by kernel_rfl)) (by decide) (fun K hK => ?_)
   refine goes_ Try.func14 (by kernel_rfl) rfl #[.agg #[.int .i64 a0_0, .int .i64 a0_1, .int .i64 a0_2, .slice A0_3 l0_3.length c0_3, .bool a0_4, .string a0_5, .slice A0_6 l0_6.length c0_6], .agg #[.int .i64 t479, .int .i64 t480, .int .i64 t481, .slice Ao18 t482.length co18, .bool t485, .string t486, .slice Ao19 t487.length co19]] (by rfl) rfl rfl (by (try simp only [List.map_toArray, List.map_cons, List.map_nil]); first | done | rfl | (simp only [List.length_drop, List.length_take]; rfl)) ?_
   with_reducible refine (lead_Same.calls k a0_0 a0_1 a0_2 _ _ l0_3 a0_4 a0_5 _ _ l0_6 t479 t480 t481 _ _ t482 t485 t486 _ _ t487 t490 _ ?side1 ?side2 ?side3 ?side4 ?side5 ?side6 ?side7 ?side8 A13.out).mono ?_
   (case side1 => exact Kd.C_up (Kd.C_below HR0_3.out HB.out))
   (case side2 => exact HC0_3.out)
   (case side3 => exact Kd.C_up (Kd.C_below HR0_6.out HB.out))
   (case side4 => exact HC0_6.out)
   (case side5 => repeat (first | exact (Kd.R_reads' HO484.out).2.2 | (with_reducible refine Kd.C_alloc ?_ _) | (with_reducible refine Kd.C_drewN ?_ _) | (with_reducible refine Kd.C_drew ?_)))
   (case side6 => exact (Kd.R_reads' HO484.out).2.1)
   (case side7 => repeat (first | exact (Kd.R_reads' HO489.out).2.2 | (with_reducible refine Kd.C_alloc ?_ _) | (with_reducible refine Kd.C_drewN ?_ _) | (with_reducible refine Kd.C_drew ?_)))
   (case side8 => exact (Kd.R_reads' HO489.out).2.1)
   rintro e w20 ⟨rfl, hb⟩
   refine ⟨_, rfl, ?_⟩
   have n0_ := Aside0.mk (Kd.R_below (Kd.R_up HO484.out) hb)
   have n1_ := Aside0.mk (Kd.R_below (Kd.R_up HO489.out) hb)
   have n2_ := Aside0.mk (blk_below (g := gb475) (o := .cells #[.int .i64 a0_0, .int .i64 a0_1, .int .i64 a0_2, .slice A0_3 l0_3.length c0_3, .bool a0_4, .string a0_5, .slice A0_6 l0_6.length c0_6] 37 (0, 0)) (bup BK475.out) hb)
   have n3_ := Aside0.mk (blk_below (g := gb476) (o := .cells #[.int .i64 a1_0, .int .i64 a1_1, .int .i64 a1_2, .slice A1_3 l1_3.length c1_3, .bool a1_4, .string a1_5, .slice A1_6 l1_6.length c1_6] 37 (0, 0)) (bup BK476.out) hb)
   have n4_ := Aside0.mk (below_step (bel HB.out) hb)
   clear HO484
   clear HO489
   clear BK475
   clear BK476
   clear HB
   have HO484 := n0_
   have HO489 := n1_
   have BK475 := n2_
   have BK476 := n3_
   have HB := n4_
   clear n0_ n1_ n2_ n3_ n4_
   (try clear hb)
   (try clear hb2)
   (try clear hk)
   (try clear hi)
   refine hK.out _ _ ⟨(blk_cell BK475.out 0).trans rfl, (blk_cell BK475.out 1).trans rfl, (blk_cell BK475.out 2).trans rfl, (blk_cell BK475.out 3).trans rfl, (blk_cell BK475.out 4).trans rfl, (blk_cell BK475.out 5).trans rfl, (blk_cell BK475.out 6).trans rfl, (blk_cell BK476.out 0).trans rfl, (blk_cell BK476.out 1).trans rfl, (blk_cell BK476.out 2).trans rfl, (blk_cell BK476.out 3).trans rfl, (blk_cell BK476.out 4).trans rfl, (blk_cell BK476.out 5).trans rfl, (blk_cell BK476.out 6).trans rfl⟩ (fun hHeld => ?_)
   clear hK K
   refine norm_ (a' := ?_) ?_ ?_
   rotate_left
   ·show Act.put _ (some 26) _ = _
    simp only [Act.put, List.setIfInBounds_toArray, List.set_cons_zero, List.set_cons_succ, i64_w, i32_w]
    rfl
   refine pure_ (i := 12) (N := some 27) (v := ?_) (a' := ?_) #[true, true, true, true, true, true, true, true, true, true, true, true, true, false] rfl rfl (any_of HT_.out (by kernel_rfl)) (fun _ _ _ h => h) (Or.inl ⟨by rfl, ?_⟩) ?_ ?_
   rotate_left
   ·intro w'
    go_simp
    with_reducible rfl
   rotate_left
   ·simp only [Act.put, List.setIfInBounds_toArray, List.set_cons_zero, List.set_cons_succ, i64_w, i32_w]
    rfl
   refine pure_ (i := 13) (N := some 28) (v := ?_) (a' := ?_) #[true, true, true, true, true, true, true, true, true, true, true, true, true, true] rfl rfl (any_of HT_.out (by kernel_rfl)) (fun _ _ _ h => h) (Or.inl ⟨by rfl, ?_⟩) ?_ ?_
   rotate_left
   ·intro w'
    go_simp
    with_reducible rfl
   rotate_left
   ·simp only [Act.put, List.setIfInBounds_toArray, List.set_cons_zero, List.set_cons_succ, i64_w, i32_w]
    rfl
   refine done_ (done_of HT_.out (by kernel_rfl)) ?_
   try go_wp2
   go_meet
   case rel => exact ⟨_, (!t490), (by first | rfl | (simp; done) | (simp [*]; done)), H', ⟨by first | omega | exact Nat.le_refl _⟩, ⟨bup BK475.out⟩, ⟨bup BK476.out⟩, ⟨bel HB.out⟩⟩
 case rest =>
  clear HC6
  try clear c1
  try clear p2
  try clear c6
  try clear c11
  try clear c11b0
  try clear c11b1
  try clear c11b2
  try clear c14
  try clear c18
  try clear c19
  obtain ⟨kq, x28_5, rfl, HA, HJ5, BK475, BK476, HB⟩ := hcut
  cases kq with
  | zero => exact absurd HA.out (by simp [reeflaw16_LeadDoes.j0])
  | succ kj5 =>
   have H := HA.out
   clear HA
   simp only [reeflaw16_LeadDoes.j0] at H
   by_cases c21 : x28_5 = true
   ·subst c21
    have H1 : (none) = some r := by rw [if_pos rfl] at H; exact H
    clear H
    have H := H1
    clear H1
    exact absurd H (by simp)
   ·replace c21 := Bool.eq_false_iff.mpr c21
    subst c21
    have H1 : ((reefref16_Rises.f kj5 a0_0 a0_1 a0_2 l0_3 a0_4 a0_5 l0_6).bind fun t491 => (if t491 = true then ((reefref16_Copy.f a0_0 a0_1 a0_2 l0_3 a0_4 a0_5 l0_6).bind fun bt493 => ((lead_Lead.f bt493.1 bt493.2.1 bt493.2.2.1 bt493.2.2.2.1 bt493.2.2.2.2.1 bt493.2.2.2.2.2.1 bt493.2.2.2.2.2.2).bind fun bt505 => ((reefref16_Lead.f a0_0 a0_1 a0_2 l0_3 a0_4 a0_5 l0_6).bind fun bt516 => ((reefref16_Same.f kj5 bt505.1 bt505.2.1 bt505.2.2.1 bt505.2.2.2.1 bt505.2.2.2.2.1 bt505.2.2.2.2.2.1 bt505.2.2.2.2.2.2 bt516.1 bt516.2.1 bt516.2.2.1 bt516.2.2.2.1 bt516.2.2.2.2.1 bt516.2.2.2.2.2.1 bt516.2.2.2.2.2.2).bind fun t527 => (if t527 = true then ((lead_Propose.f bt493.1 bt493.2.1 bt493.2.2.1 bt493.2.2.2.1 bt493.2.2.2.2.1 bt493.2.2.2.2.2.1 bt493.2.2.2.2.2.2 a2 a3).bind fun bt528 => ((reefref16_Propose.f a0_0 a0_1 a0_2 l0_3 a0_4 a0_5 l0_6 a2 a3).bind fun bt539 => ((reefref16_Same.f kj5 bt528.1 bt528.2.1 bt528.2.2.1 bt528.2.2.2.1 bt528.2.2.2.2.1 bt528.2.2.2.2.2.1 bt528.2.2.2.2.2.2 bt539.1 bt539.2.1 bt539.2.2.1 bt539.2.2.2.1 bt539.2.2.2.2.1 bt539.2.2.2.2.2.1 bt539.2.2.2.2.2.2).bind fun t550 => (if t550 = true then ((lead_Ack.f kj5 bt493.1 bt493.2.1 bt493.2.2.1 bt493.2.2.2.1 bt493.2.2.2.2.1 bt493.2.2.2.2.2.1 bt493.2.2.2.2.2.2 a3).bind fun bt551 => ((reefref16_Ack.f kj5 a0_0 a0_1 a0_2 l0_3 a0_4 a0_5 l0_6 a3).bind fun bt562 => ((reefref16_Same.f kj5 bt551.1 bt551.2.1 bt551.2.2.1 bt551.2.2.2.1 bt551.2.2.2.2.1 bt551.2.2.2.2.2.1 bt551.2.2.2.2.2.2 bt562.1 bt562.2.1 bt562.2.2.1 bt562.2.2.2.1 bt562.2.2.2.2.1 bt562.2.2.2.2.2.1 bt562.2.2.2.2.2.2).bind fun t573 => (if t573 = true then ((lead_Done.f bt493.1 bt493.2.1 bt493.2.2.1 bt493.2.2.2.1 bt493.2.2.2.2.1 bt493.2.2.2.2.2.1 bt493.2.2.2.2.2.2).bind fun bt574 => ((reefref16_Done.f a0_0 a0_1 a0_2 l0_3 a0_4 a0_5 l0_6).bind fun bt585 => ((reefref16_Same.f kj5 bt574.1 bt574.2.1 bt574.2.2.1 bt574.2.2.2.1 bt574.2.2.2.2.1 bt574.2.2.2.2.2.1 bt574.2.2.2.2.2.2 bt585.1 bt585.2.1 bt585.2.2.1 bt585.2.2.2.1 bt585.2.2.2.2.1 bt585.2.2.2.2.2.1 bt585.2.2.2.2.2.2).bind fun t596 => (if t596 = true then ((lead_Chosen.f bt493.1 bt493.2.1 bt493.2.2.1 bt493.2.2.2.1 bt493.2.2.2.2.1 bt493.2.2.2.2.2.1 bt493.2.2.2.2.2.2 a4).bind fun t597 => ((reefref16_Chosen.f a0_0 a0_1 a0_2 l0_3 a0_4 a0_5 l0_6 a4).bind fun t598 => (reeflaw16_LeadDoes.j1 kj5 a4 (t597 != t598) a0_0 a0_1 a0_2 l0_3 a0_4 a0_5 l0_6 bt493.1 bt493.2.1 bt493.2.2.1 bt493.2.2.2.1 bt493.2.2.2.2.1 bt493.2.2.2.2.2.1 bt493.2.2.2.2.2.2))) else (none))))) else (none))))) else (none))))) else (none)))))) else ((reeflaw16_awake.f kj5).bind fun t492 => (some t492)))) = some r := by rw [if_neg (show ¬ (false = true) by decide)] at H; exact H
    clear H
    have H := H1
    clear H1
    replace H := Option.bind_eq_some_iff.mp H
    obtain ⟨t491, A220, H⟩ := H
    replace H : (if t491 = true then ((reefref16_Copy.f a0_0 a0_1 a0_2 l0_3 a0_4 a0_5 l0_6).bind fun bt493 => ((lead_Lead.f bt493.1 bt493.2.1 bt493.2.2.1 bt493.2.2.2.1 bt493.2.2.2.2.1 bt493.2.2.2.2.2.1 bt493.2.2.2.2.2.2).bind fun bt505 => ((reefref16_Lead.f a0_0 a0_1 a0_2 l0_3 a0_4 a0_5 l0_6).bind fun bt516 => ((reefref16_Same.f kj5 bt505.1 bt505.2.1 bt505.2.2.1 bt505.2.2.2.1 bt505.2.2.2.2.1 bt505.2.2.2.2.2.1 bt505.2.2.2.2.2.2 bt516.1 bt516.2.1 bt516.2.2.1 bt516.2.2.2.1 bt516.2.2.2.2.1 bt516.2.2.2.2.2.1 bt516.2.2.2.2.2.2).bind fun t527 => (if t527 = true then ((lead_Propose.f bt493.1 bt493.2.1 bt493.2.2.1 bt493.2.2.2.1 bt493.2.2.2.2.1 bt493.2.2.2.2.2.1 bt493.2.2.2.2.2.2 a2 a3).bind fun bt528 => ((reefref16_Propose.f a0_0 a0_1 a0_2 l0_3 a0_4 a0_5 l0_6 a2 a3).bind fun bt539 => ((reefref16_Same.f kj5 bt528.1 bt528.2.1 bt528.2.2.1 bt528.2.2.2.1 bt528.2.2.2.2.1 bt528.2.2.2.2.2.1 bt528.2.2.2.2.2.2 bt539.1 bt539.2.1 bt539.2.2.1 bt539.2.2.2.1 bt539.2.2.2.2.1 bt539.2.2.2.2.2.1 bt539.2.2.2.2.2.2).bind fun t550 => (if t550 = true then ((lead_Ack.f kj5 bt493.1 bt493.2.1 bt493.2.2.1 bt493.2.2.2.1 bt493.2.2.2.2.1 bt493.2.2.2.2.2.1 bt493.2.2.2.2.2.2 a3).bind fun bt551 => ((reefref16_Ack.f kj5 a0_0 a0_1 a0_2 l0_3 a0_4 a0_5 l0_6 a3).bind fun bt562 => ((reefref16_Same.f kj5 bt551.1 bt551.2.1 bt551.2.2.1 bt551.2.2.2.1 bt551.2.2.2.2.1 bt551.2.2.2.2.2.1 bt551.2.2.2.2.2.2 bt562.1 bt562.2.1 bt562.2.2.1 bt562.2.2.2.1 bt562.2.2.2.2.1 bt562.2.2.2.2.2.1 bt562.2.2.2.2.2.2).bind fun t573 => (if t573 = true then ((lead_Done.f bt493.1 bt493.2.1 bt493.2.2.1 bt493.2.2.2.1 bt493.2.2.2.2.1 bt493.2.2.2.2.2.1 bt493.2.2.2.2.2.2).bind fun bt574 => ((reefref16_Done.f a0_0 a0_1 a0_2 l0_3 a0_4 a0_5 l0_6).bind fun bt585 => ((reefref16_Same.f kj5 bt574.1 bt574.2.1 bt574.2.2.1 bt574.2.2.2.1 bt574.2.2.2.2.1 bt574.2.2.2.2.2.1 bt574.2.2.2.2.2.2 bt585.1 bt585.2.1 bt585.2.2.1 bt585.2.2.2.1 bt585.2.2.2.2.1 bt585.2.2.2.2.2.1 bt585.2.2.2.2.2.2).bind fun t596 => (if t596 = true then ((lead_Chosen.f bt493.1 bt493.2.1 bt493.2.2.1 bt493.2.2.2.1 bt493.2.2.2.2.1 bt493.2.2.2.2.2.1 bt493.2.2.2.2.2.2 a4).bind fun t597 => ((reefref16_Chosen.f a0_0 a0_1 a0_2 l0_3 a0_4 a0_5 l0_6 a4).bind fun t598 => (reeflaw16_LeadDoes.j1 kj5 a4 (t597 != t598) a0_0 a0_1 a0_2 l0_3 a0_4 a0_5 l0_6 bt493.1 bt493.2.1 bt493.2.2.1 bt493.2.2.2.1 bt493.2.2.2.2.1 bt493.2.2.2.2.2.1 bt493.2.2.2.2.2.2))) else (none))))) else (none))))) else (none))))) else (none)))))) else ((reeflaw16_awake.f kj5).bind fun t492 => (some t492))) = some r := H
    have A22 := Aside0.mk A220
    clear A220
    by_cases c23 : t491 = true
    ·subst c23
     have H1 : ((reefref16_Copy.f a0_0 a0_1 a0_2 l0_3 a0_4 a0_5 l0_6).bind fun bt493 => ((lead_Lead.f bt493.1 bt493.2.1 bt493.2.2.1 bt493.2.2.2.1 bt493.2.2.2.2.1 bt493.2.2.2.2.2.1 bt493.2.2.2.2.2.2).bind fun bt505 => ((reefref16_Lead.f a0_0 a0_1 a0_2 l0_3 a0_4 a0_5 l0_6).bind fun bt516 => ((reefref16_Same.f kj5 bt505.1 bt505.2.1 bt505.2.2.1 bt505.2.2.2.1 bt505.2.2.2.2.1 bt505.2.2.2.2.2.1 bt505.2.2.2.2.2.2 bt516.1 bt516.2.1 bt516.2.2.1 bt516.2.2.2.1 bt516.2.2.2.2.1 bt516.2.2.2.2.2.1 bt516.2.2.2.2.2.2).bind fun t527 => (if t527 = true then ((lead_Propose.f bt493.1 bt493.2.1 bt493.2.2.1 bt493.2.2.2.1 bt493.2.2.2.2.1 bt493.2.2.2.2.2.1 bt493.2.2.2.2.2.2 a2 a3).bind fun bt528 => ((reefref16_Propose.f a0_0 a0_1 a0_2 l0_3 a0_4 a0_5 l0_6 a2 a3).bind fun bt539 => ((reefref16_Same.f kj5 bt528.1 bt528.2.1 bt528.2.2.1 bt528.2.2.2.1 bt528.2.2.2.2.1 bt528.2.2.2.2.2.1 bt528.2.2.2.2.2.2 bt539.1 bt539.2.1 bt539.2.2.1 bt539.2.2.2.1 bt539.2.2.2.2.1 bt539.2.2.2.2.2.1 bt539.2.2.2.2.2.2).bind fun t550 => (if t550 = true then ((lead_Ack.f kj5 bt493.1 bt493.2.1 bt493.2.2.1 bt493.2.2.2.1 bt493.2.2.2.2.1 bt493.2.2.2.2.2.1 bt493.2.2.2.2.2.2 a3).bind fun bt551 => ((reefref16_Ack.f kj5 a0_0 a0_1 a0_2 l0_3 a0_4 a0_5 l0_6 a3).bind fun bt562 => ((reefref16_Same.f kj5 bt551.1 bt551.2.1 bt551.2.2.1 bt551.2.2.2.1 bt551.2.2.2.2.1 bt551.2.2.2.2.2.1 bt551.2.2.2.2.2.2 bt562.1 bt562.2.1 bt562.2.2.1 bt562.2.2.2.1 bt562.2.2.2.2.1 bt562.2.2.2.2.2.1 bt562.2.2.2.2.2.2).bind fun t573 => (if t573 = true then ((lead_Done.f bt493.1 bt493.2.1 bt493.2.2.1 bt493.2.2.2.1 bt493.2.2.2.2.1 bt493.2.2.2.2.2.1 bt493.2.2.2.2.2.2).bind fun bt574 => ((reefref16_Done.f a0_0 a0_1 a0_2 l0_3 a0_4 a0_5 l0_6).bind fun bt585 => ((reefref16_Same.f kj5 bt574.1 bt574.2.1 bt574.2.2.1 bt574.2.2.2.1 bt574.2.2.2.2.1 bt574.2.2.2.2.2.1 bt574.2.2.2.2.2.2 bt585.1 bt585.2.1 bt585.2.2.1 bt585.2.2.2.1 bt585.2.2.2.2.1 bt585.2.2.2.2.2.1 bt585.2.2.2.2.2.2).bind fun t596 => (if t596 = true then ((lead_Chosen.f bt493.1 bt493.2.1 bt493.2.2.1 bt493.2.2.2.1 bt493.2.2.2.2.1 bt493.2.2.2.2.2.1 bt493.2.2.2.2.2.2 a4).bind fun t597 => ((reefref16_Chosen.f a0_0 a0_1 a0_2 l0_3 a0_4 a0_5 l0_6 a4).bind fun t598 => (reeflaw16_LeadDoes.j1 kj5 a4 (t597 != t598) a0_0 a0_1 a0_2 l0_3 a0_4 a0_5 l0_6 bt493.1 bt493.2.1 bt493.2.2.1 bt493.2.2.2.1 bt493.2.2.2.2.1 bt493.2.2.2.2.2.1 bt493.2.2.2.2.2.2))) else (none))))) else (none))))) else (none))))) else (none)))))) = some r := by rw [if_pos rfl] at H; exact H
     clear H
     have H := H1
     clear H1
     replace H := Option.bind_eq_some_iff.mp H
     obtain ⟨⟨t493, t494, t495, t496, t499, t500, t501⟩, A240, H⟩ := H
     replace H : ((lead_Lead.f t493 t494 t495 t496 t499 t500 t501).bind fun bt505 => ((reefref16_Lead.f a0_0 a0_1 a0_2 l0_3 a0_4 a0_5 l0_6).bind fun bt516 => ((reefref16_Same.f kj5 bt505.1 bt505.2.1 bt505.2.2.1 bt505.2.2.2.1 bt505.2.2.2.2.1 bt505.2.2.2.2.2.1 bt505.2.2.2.2.2.2 bt516.1 bt516.2.1 bt516.2.2.1 bt516.2.2.2.1 bt516.2.2.2.2.1 bt516.2.2.2.2.2.1 bt516.2.2.2.2.2.2).bind fun t527 => (if t527 = true then ((lead_Propose.f t493 t494 t495 t496 t499 t500 t501 a2 a3).bind fun bt528 => ((reefref16_Propose.f a0_0 a0_1 a0_2 l0_3 a0_4 a0_5 l0_6 a2 a3).bind fun bt539 => ((reefref16_Same.f kj5 bt528.1 bt528.2.1 bt528.2.2.1 bt528.2.2.2.1 bt528.2.2.2.2.1 bt528.2.2.2.2.2.1 bt528.2.2.2.2.2.2 bt539.1 bt539.2.1 bt539.2.2.1 bt539.2.2.2.1 bt539.2.2.2.2.1 bt539.2.2.2.2.2.1 bt539.2.2.2.2.2.2).bind fun t550 => (if t550 = true then ((lead_Ack.f kj5 t493 t494 t495 t496 t499 t500 t501 a3).bind fun bt551 => ((reefref16_Ack.f kj5 a0_0 a0_1 a0_2 l0_3 a0_4 a0_5 l0_6 a3).bind fun bt562 => ((reefref16_Same.f kj5 bt551.1 bt551.2.1 bt551.2.2.1 bt551.2.2.2.1 bt551.2.2.2.2.1 bt551.2.2.2.2.2.1 bt551.2.2.2.2.2.2 bt562.1 bt562.2.1 bt562.2.2.1 bt562.2.2.2.1 bt562.2.2.2.2.1 bt562.2.2.2.2.2.1 bt562.2.2.2.2.2.2).bind fun t573 => (if t573 = true then ((lead_Done.f t493 t494 t495 t496 t499 t500 t501).bind fun bt574 => ((reefref16_Done.f a0_0 a0_1 a0_2 l0_3 a0_4 a0_5 l0_6).bind fun bt585 => ((reefref16_Same.f kj5 bt574.1 bt574.2.1 bt574.2.2.1 bt574.2.2.2.1 bt574.2.2.2.2.1 bt574.2.2.2.2.2.1 bt574.2.2.2.2.2.2 bt585.1 bt585.2.1 bt585.2.2.1 bt585.2.2.2.1 bt585.2.2.2.2.1 bt585.2.2.2.2.2.1 bt585.2.2.2.2.2.2).bind fun t596 => (if t596 = true then ((lead_Chosen.f t493 t494 t495 t496 t499 t500 t501 a4).bind fun t597 => ((reefref16_Chosen.f a0_0 a0_1 a0_2 l0_3 a0_4 a0_5 l0_6 a4).bind fun t598 => (reeflaw16_LeadDoes.j1 kj5 a4 (t597 != t598) a0_0 a0_1 a0_2 l0_3 a0_4 a0_5 l0_6 t493 t494 t495 t496 t499 t500 t501))) else (none))))) else (none))))) else (none))))) else (none))))) = some r := H
     have A24 := Aside0.mk A240
     clear A240
     have HC25 := Aside0.mk H
     clear H
     have hnb26 := NB475_476.out
     have hnc26 := NB476_475.out
     obtain ⟨hcz27_0, hcz27_1, hcz27_2, hcz27_3, hcz27_4, hcz27_5, hcz27_6⟩ := blkC7 wc gb475 (.int .i64 a0_0) (.int .i64 a0_1) (.int .i64 a0_2) (.slice A0_3 l0_3.length c0_3) (.bool a0_4) (.string a0_5) (.slice A0_6 l0_6.length c0_6) BK475.out
     obtain ⟨hfz27_0, hfz27_1, hfz27_2, hfz27_3, hfz27_4, hfz27_5, hfz27_6⟩ := blkF7 BK475.out
     go_upto_region 6 with (first | ((with_reducible refine gate_callee (f := 17) rfl ?_); refine goesL_ (some 30) rfl rfl Try.func17 (by kernel_rfl) rfl #[.agg #[.int .i64 a0_0, .int .i64 a0_1, .int .i64 a0_2, .slice A0_3 l0_3.length c0_3, .bool a0_4, .string a0_5, .slice A0_6 l0_6.length c0_6]] rfl (by (try simp only [List.map_toArray, List.map_cons, List.map_nil]); first | done | rfl | (simp only [List.length_drop, List.length_take]; rfl)) ?_; (with_reducible refine (reefref16_Rises.calls kj5 a0_0 a0_1 a0_2 _ _ l0_3 a0_4 a0_5 _ _ l0_6 true _ ?side1 ?side2 ?side3 ?side4 A22.out).mono ?_); (case side1 => exact Kd.C_up (Kd.C_below HR0_3.out HB.out)); (case side2 => exact HC0_3.out); (case side3 => exact Kd.C_up (Kd.C_below HR0_6.out HB.out)); (case side4 => exact HC0_6.out); rintro e w28 ⟨rfl, hb⟩; refine ⟨_, rfl, ?_⟩; have n0_ := Aside0.mk (blk_below (g := gb475) (o := .cells #[.int .i64 a0_0, .int .i64 a0_1, .int .i64 a0_2, .slice A0_3 l0_3.length c0_3, .bool a0_4, .string a0_5, .slice A0_6 l0_6.length c0_6] 37 (0, 0)) (bup BK475.out) hb); have n1_ := Aside0.mk (blk_below (g := gb476) (o := .cells #[.int .i64 a1_0, .int .i64 a1_1, .int .i64 a1_2, .slice A1_3 l1_3.length c1_3, .bool a1_4, .string a1_5, .slice A1_6 l1_6.length c1_6] 37 (0, 0)) (bup BK476.out) hb); have n2_ := Aside0.mk (below_step (bel HB.out) hb); clear BK475; clear BK476; clear HB; have BK475 := n0_; have BK476 := n1_; have HB := n2_; clear n0_ n1_ n2_; (try clear hb); (try clear hb2); (try clear hk); (try clear hi); obtain ⟨hcz29_0, hcz29_1, hcz29_2, hcz29_3, hcz29_4, hcz29_5, hcz29_6⟩ := blkC7 w28 gb475 (.int .i64 a0_0) (.int .i64 a0_1) (.int .i64 a0_2) (.slice A0_3 l0_3.length c0_3) (.bool a0_4) (.string a0_5) (.slice A0_6 l0_6.length c0_6) BK475.out; obtain ⟨hfz29_0, hfz29_1, hfz29_2, hfz29_3, hfz29_4, hfz29_5, hfz29_6⟩ := blkF7 BK475.out) | ((with_reducible refine gate_callee (f := 18) rfl ?_); refine goesL_ (some 34) rfl rfl Try.func18 (by kernel_rfl) rfl #[.agg #[.int .i64 a0_0, .int .i64 a0_1, .int .i64 a0_2, .slice A0_3 l0_3.length c0_3, .bool a0_4, .string a0_5, .slice A0_6 l0_6.length c0_6]] rfl (by (try simp only [List.map_toArray, List.map_cons, List.map_nil]); first | done | rfl | (simp only [List.length_drop, List.length_take]; rfl)) ?_; (with_reducible refine (reefref16_Copy.calls a0_0 a0_1 a0_2 _ _ l0_3 a0_4 a0_5 _ _ l0_6 t493 t494 t495 t496 t499 t500 t501 _ ?side1 ?side2 ?side3 ?side4 A24.out).mono ?_); (case side1 => exact Kd.C_up (Kd.C_below HR0_3.out HB.out)); (case side2 => exact HC0_3.out); (case side3 => exact Kd.C_up (Kd.C_below HR0_6.out HB.out)); (case side4 => exact HC0_6.out); rintro e w30 ⟨v497, v502, rfl, ho0, ho1, hb⟩; refine ⟨_, rfl, ?_⟩; have n0_ := Aside0.mk (Kd.R_lower ho0 (below_size (bel HB.out))); have n1_ := Aside0.mk (Kd.R_lower ho1 (below_size (bel HB.out))); have n2_ := Aside0.mk (blk_below (g := gb475) (o := .cells #[.int .i64 a0_0, .int .i64 a0_1, .int .i64 a0_2, .slice A0_3 l0_3.length c0_3, .bool a0_4, .string a0_5, .slice A0_6 l0_6.length c0_6] 37 (0, 0)) (bup BK475.out) hb); have n3_ := Aside0.mk (blk_below (g := gb476) (o := .cells #[.int .i64 a1_0, .int .i64 a1_1, .int .i64 a1_2, .slice A1_3 l1_3.length c1_3, .bool a1_4, .string a1_5, .slice A1_6 l1_6.length c1_6] 37 (0, 0)) (bup BK476.out) hb); have n4_ := Aside0.mk (below_step (bel HB.out) hb); clear BK475; clear BK476; clear HB; have HO498 := n0_; have HO503 := n1_; have BK475 := n2_; have BK476 := n3_; have HB := n4_; clear n0_ n1_ n2_ n3_ n4_; (try clear hb); (try clear hb2); (try clear hk); (try clear hi); (try clear ho0); (try clear ho1)) | ((with_reducible refine gate_dst (N := 11) rfl ?_); refine box_event ?hg (N := 11) ?hd (cs := #[.int .i64 0, .int .i64 0, .int .i64 0, .slice none 0 0, .bool false, .string (⟨#[]⟩ : ByteArray), .slice none 0 0]) (t := 37) ?hr ?_; (case hd => rfl); (case hg => rfl); (case hr => first | (go_simp; done) | (go_simp; rfl)); intro gb504 hg w31 hbox hb; have n0_ := Aside0.mk (Kd.R_below (Kd.R_up HO498.out) hb); have n1_ := Aside0.mk (Kd.R_below (Kd.R_up HO503.out) hb); have n2_ := Aside0.mk (blk_below (g := gb475) (o := .cells #[.int .i64 a0_0, .int .i64 a0_1, .int .i64 a0_2, .slice A0_3 l0_3.length c0_3, .bool a0_4, .string a0_5, .slice A0_6 l0_6.length c0_6] 37 (0, 0)) (bup BK475.out) hb); have n3_ := Aside0.mk (blk_below (g := gb476) (o := .cells #[.int .i64 a1_0, .int .i64 a1_1, .int .i64 a1_2, .slice A1_3 l1_3.length c1_3, .bool a1_4, .string a1_5, .slice A1_6 l1_6.length c1_6] 37 (0, 0)) (bup BK476.out) hb); have n4_ := Aside0.mk (below_step (bel HB.out) hb); have n5_ := Aside0.mk (hbox); have n6_ := Aside0.mk ((by rw [hg]; exact (below_size (bel HB.out)) : w.heap.size ≤ gb504)); have n7_ := n6_; have n8_ := Aside0.mk ((by rw [hg]; exact Nat.ne_of_lt (blk_lt (g := gb475) (o := .cells #[.int .i64 a0_0, .int .i64 a0_1, .int .i64 a0_2, .slice A0_3 l0_3.length c0_3, .bool a0_4, .string a0_5, .slice A0_6 l0_6.length c0_6] 37 (0, 0)) (bup BK475.out)) : gb475 ≠ gb504)); have n9_ := Aside0.mk ((by rw [hg]; exact Nat.ne_of_gt (blk_lt (g := gb475) (o := .cells #[.int .i64 a0_0, .int .i64 a0_1, .int .i64 a0_2, .slice A0_3 l0_3.length c0_3, .bool a0_4, .string a0_5, .slice A0_6 l0_6.length c0_6] 37 (0, 0)) (bup BK475.out)) : gb504 ≠ gb475)); have n10_ := Aside0.mk ((by rw [hg]; exact Nat.ne_of_lt (blk_lt (g := gb476) (o := .cells #[.int .i64 a1_0, .int .i64 a1_1, .int .i64 a1_2, .slice A1_3 l1_3.length c1_3, .bool a1_4, .string a1_5, .slice A1_6 l1_6.length c1_6] 37 (0, 0)) (bup BK476.out)) : gb476 ≠ gb504)); have n11_ := Aside0.mk ((by rw [hg]; exact Nat.ne_of_gt (blk_lt (g := gb476) (o := .cells #[.int .i64 a1_0, .int .i64 a1_1, .int .i64 a1_2, .slice A1_3 l1_3.length c1_3, .bool a1_4, .string a1_5, .slice A1_6 l1_6.length c1_6] 37 (0, 0)) (bup BK476.out)) : gb504 ≠ gb476)); clear HO498; clear HO503; clear BK475; clear BK476; clear HB; have HO498 := n0_; have HO503 := n1_; have BK475 := n2_; have BK476 := n3_; have HB := n4_; have BK504 := n5_; have GW504 := n6_; have GE504 := n7_; have NB475_504 := n8_; have NB504_475 := n9_; have NB476_504 := n10_; have NB504_476 := n11_; clear n0_ n1_ n2_ n3_ n4_ n5_ n6_ n7_ n8_ n9_ n10_ n11_; clear hb hbox hg; have hnb32 := NB504_475.out; have hnc32 := NB475_504.out; have hnb33 := NB504_476.out; have hnc33 := NB476_504.out; obtain ⟨hcz34_0, hcz34_1, hcz34_2, hcz34_3, hcz34_4, hcz34_5, hcz34_6⟩ := blkC7 w31 gb504 (.int .i64 0) (.int .i64 0) (.int .i64 0) (.slice none 0 0) (.bool false) (.string (⟨#[]⟩ : ByteArray)) (.slice none 0 0) BK504.out; obtain ⟨hfz34_0, hfz34_1, hfz34_2, hfz34_3, hfz34_4, hfz34_5, hfz34_6⟩ := blkF7 BK504.out; obtain ⟨Ao35, co35, eo35⟩ := Kd.R_slice HO498.out; subst eo35; obtain ⟨Ao36, co36, eo36⟩ := Kd.R_slice HO503.out; subst eo36))
     (try simp only [Act.put, List.setIfInBounds_toArray, List.set_cons_zero, List.set_cons_succ])
     go_cut [79] (fun v79 wc => ∃ (kq : Nat) (x79_24 : Bool), v79 = .bool x79_24 ∧ Aside0 (reeflaw16_LeadDoes.j1 kq a4 x79_24 a0_0 a0_1 a0_2 l0_3 a0_4 a0_5 l0_6 t493 t494 t495 t496 t499 t500 t501 = some r) ∧ Aside0 (kq ≤ kj5) ∧ Aside0 (Kd.R k39 39 wc w.heap.size (fun _ => True) (.slice Ao35 t496.length co35) t496) ∧ Aside0 (Kd.R (Kd.int .i64) 3 wc w.heap.size (fun _ => True) (.slice Ao36 t501.length co36) t501) ∧ Aside0 (wc.heap[gb475]? = some (.cells #[.int .i64 a0_0, .int .i64 a0_1, .int .i64 a0_2, (.slice A0_3 l0_3.length c0_3), .bool a0_4, .string a0_5, (.slice A0_6 l0_6.length c0_6)] 37 (0, 0))) ∧ Aside0 (wc.heap[gb476]? = some (.cells #[.int .i64 a1_0, .int .i64 a1_1, .int .i64 a1_2, (.slice A1_3 l1_3.length c1_3), .bool a1_4, .string a1_5, (.slice A1_6 l1_6.length c1_6)] 37 (0, 0))) ∧ Aside0 (wc.heap[gb504]? = some (.cells #[.int .i64 t493, .int .i64 t494, .int .i64 t495, (.slice Ao35 t496.length co35), .bool t499, .string t500, (.slice Ao36 t501.length co36)] 37 (0, 0))) ∧ Aside0 (Below w.heap.size w wc))
     case first =>
      have H := HC25.out
      clear HC25
      replace H := Option.bind_eq_some_iff.mp H
      obtain ⟨⟨t505, t506, t507, t508, t511, t512, t513⟩, A370, H⟩ := H
      replace H : ((reefref16_Lead.f a0_0 a0_1 a0_2 l0_3 a0_4 a0_5 l0_6).bind fun bt516 => ((reefref16_Same.f kj5 t505 t506 t507 t508 t511 t512 t513 bt516.1 bt516.2.1 bt516.2.2.1 bt516.2.2.2.1 bt516.2.2.2.2.1 bt516.2.2.2.2.2.1 bt516.2.2.2.2.2.2).bind fun t527 => (if t527 = true then ((lead_Propose.f t493 t494 t495 t496 t499 t500 t501 a2 a3).bind fun bt528 => ((reefref16_Propose.f a0_0 a0_1 a0_2 l0_3 a0_4 a0_5 l0_6 a2 a3).bind fun bt539 => ((reefref16_Same.f kj5 bt528.1 bt528.2.1 bt528.2.2.1 bt528.2.2.2.1 bt528.2.2.2.2.1 bt528.2.2.2.2.2.1 bt528.2.2.2.2.2.2 bt539.1 bt539.2.1 bt539.2.2.1 bt539.2.2.2.1 bt539.2.2.2.2.1 bt539.2.2.2.2.2.1 bt539.2.2.2.2.2.2).bind fun t550 => (if t550 = true then ((lead_Ack.f kj5 t493 t494 t495 t496 t499 t500 t501 a3).bind fun bt551 => ((reefref16_Ack.f kj5 a0_0 a0_1 a0_2 l0_3 a0_4 a0_5 l0_6 a3).bind fun bt562 => ((reefref16_Same.f kj5 bt551.1 bt551.2.1 bt551.2.2.1 bt551.2.2.2.1 bt551.2.2.2.2.1 bt551.2.2.2.2.2.1 bt551.2.2.2.2.2.2 bt562.1 bt562.2.1 bt562.2.2.1 bt562.2.2.2.1 bt562.2.2.2.2.1 bt562.2.2.2.2.2.1 bt562.2.2.2.2.2.2).bind fun t573 => (if t573 = true then ((lead_Done.f t493 t494 t495 t496 t499 t500 t501).bind fun bt574 => ((reefref16_Done.f a0_0 a0_1 a0_2 l0_3 a0_4 a0_5 l0_6).bind fun bt585 => ((reefref16_Same.f kj5 bt574.1 bt574.2.1 bt574.2.2.1 bt574.2.2.2.1 bt574.2.2.2.2.1 bt574.2.2.2.2.2.1 bt574.2.2.2.2.2.2 bt585.1 bt585.2.1 bt585.2.2.1 bt585.2.2.2.1 bt585.2.2.2.2.1 bt585.2.2.2.2.2.1 bt585.2.2.2.2.2.2).bind fun t596 => (if t596 = true then ((lead_Chosen.f t493 t494 t495 t496 t499 t500 t501 a4).bind fun t597 => ((reefref16_Chosen.f a0_0 a0_1 a0_2 l0_3 a0_4 a0_5 l0_6 a4).bind fun t598 => (reeflaw16_LeadDoes.j1 kj5 a4 (t597 != t598) a0_0 a0_1 a0_2 l0_3 a0_4 a0_5 l0_6 t493 t494 t495 t496 t499 t500 t501))) else (none))))) else (none))))) else (none))))) else (none)))) = some r := H
      have A37 := Aside0.mk A370
      clear A370
      replace H := Option.bind_eq_some_iff.mp H
      obtain ⟨⟨t516, t517, t518, t519, t522, t523, t524⟩, A380, H⟩ := H
      replace H : ((reefref16_Same.f kj5 t505 t506 t507 t508 t511 t512 t513 t516 t517 t518 t519 t522 t523 t524).bind fun t527 => (if t527 = true then ((lead_Propose.f t493 t494 t495 t496 t499 t500 t501 a2 a3).bind fun bt528 => ((reefref16_Propose.f a0_0 a0_1 a0_2 l0_3 a0_4 a0_5 l0_6 a2 a3).bind fun bt539 => ((reefref16_Same.f kj5 bt528.1 bt528.2.1 bt528.2.2.1 bt528.2.2.2.1 bt528.2.2.2.2.1 bt528.2.2.2.2.2.1 bt528.2.2.2.2.2.2 bt539.1 bt539.2.1 bt539.2.2.1 bt539.2.2.2.1 bt539.2.2.2.2.1 bt539.2.2.2.2.2.1 bt539.2.2.2.2.2.2).bind fun t550 => (if t550 = true then ((lead_Ack.f kj5 t493 t494 t495 t496 t499 t500 t501 a3).bind fun bt551 => ((reefref16_Ack.f kj5 a0_0 a0_1 a0_2 l0_3 a0_4 a0_5 l0_6 a3).bind fun bt562 => ((reefref16_Same.f kj5 bt551.1 bt551.2.1 bt551.2.2.1 bt551.2.2.2.1 bt551.2.2.2.2.1 bt551.2.2.2.2.2.1 bt551.2.2.2.2.2.2 bt562.1 bt562.2.1 bt562.2.2.1 bt562.2.2.2.1 bt562.2.2.2.2.1 bt562.2.2.2.2.2.1 bt562.2.2.2.2.2.2).bind fun t573 => (if t573 = true then ((lead_Done.f t493 t494 t495 t496 t499 t500 t501).bind fun bt574 => ((reefref16_Done.f a0_0 a0_1 a0_2 l0_3 a0_4 a0_5 l0_6).bind fun bt585 => ((reefref16_Same.f kj5 bt574.1 bt574.2.1 bt574.2.2.1 bt574.2.2.2.1 bt574.2.2.2.2.1 bt574.2.2.2.2.2.1 bt574.2.2.2.2.2.2 bt585.1 bt585.2.1 bt585.2.2.1 bt585.2.2.2.1 bt585.2.2.2.2.1 bt585.2.2.2.2.2.1 bt585.2.2.2.2.2.2).bind fun t596 => (if t596 = true then ((lead_Chosen.f t493 t494 t495 t496 t499 t500 t501 a4).bind fun t597 => ((reefref16_Chosen.f a0_0 a0_1 a0_2 l0_3 a0_4 a0_5 l0_6 a4).bind fun t598 => (reeflaw16_LeadDoes.j1 kj5 a4 (t597 != t598) a0_0 a0_1 a0_2 l0_3 a0_4 a0_5 l0_6 t493 t494 t495 t496 t499 t500 t501))) else (none))))) else (none))))) else (none))))) else (none))) = some r := H
      have A38 := Aside0.mk A380
      clear A380
      replace H := Option.bind_eq_some_iff.mp H
      obtain ⟨t527, A390, H⟩ := H
      replace H : (if t527 = true then ((lead_Propose.f t493 t494 t495 t496 t499 t500 t501 a2 a3).bind fun bt528 => ((reefref16_Propose.f a0_0 a0_1 a0_2 l0_3 a0_4 a0_5 l0_6 a2 a3).bind fun bt539 => ((reefref16_Same.f kj5 bt528.1 bt528.2.1 bt528.2.2.1 bt528.2.2.2.1 bt528.2.2.2.2.1 bt528.2.2.2.2.2.1 bt528.2.2.2.2.2.2 bt539.1 bt539.2.1 bt539.2.2.1 bt539.2.2.2.1 bt539.2.2.2.2.1 bt539.2.2.2.2.2.1 bt539.2.2.2.2.2.2).bind fun t550 => (if t550 = true then ((lead_Ack.f kj5 t493 t494 t495 t496 t499 t500 t501 a3).bind fun bt551 => ((reefref16_Ack.f kj5 a0_0 a0_1 a0_2 l0_3 a0_4 a0_5 l0_6 a3).bind fun bt562 => ((reefref16_Same.f kj5 bt551.1 bt551.2.1 bt551.2.2.1 bt551.2.2.2.1 bt551.2.2.2.2.1 bt551.2.2.2.2.2.1 bt551.2.2.2.2.2.2 bt562.1 bt562.2.1 bt562.2.2.1 bt562.2.2.2.1 bt562.2.2.2.2.1 bt562.2.2.2.2.2.1 bt562.2.2.2.2.2.2).bind fun t573 => (if t573 = true then ((lead_Done.f t493 t494 t495 t496 t499 t500 t501).bind fun bt574 => ((reefref16_Done.f a0_0 a0_1 a0_2 l0_3 a0_4 a0_5 l0_6).bind fun bt585 => ((reefref16_Same.f kj5 bt574.1 bt574.2.1 bt574.2.2.1 bt574.2.2.2.1 bt574.2.2.2.2.1 bt574.2.2.2.2.2.1 bt574.2.2.2.2.2.2 bt585.1 bt585.2.1 bt585.2.2.1 bt585.2.2.2.1 bt585.2.2.2.2.1 bt585.2.2.2.2.2.1 bt585.2.2.2.2.2.2).bind fun t596 => (if t596 = true then ((lead_Chosen.f t493 t494 t495 t496 t499 t500 t501 a4).bind fun t597 => ((reefref16_Chosen.f a0_0 a0_1 a0_2 l0_3 a0_4 a0_5 l0_6 a4).bind fun t598 => (reeflaw16_LeadDoes.j1 kj5 a4 (t597 != t598) a0_0 a0_1 a0_2 l0_3 a0_4 a0_5 l0_6 t493 t494 t495 t496 t499 t500 t501))) else (none))))) else (none))))) else (none))))) else (none)) = some r := H
      have A39 := Aside0.mk A390
      clear A390
      by_cases c40 : t527 = true
      ·subst c40
       have H1 : ((lead_Propose.f t493 t494 t495 t496 t499 t500 t501 a2 a3).bind fun bt528 => ((reefref16_Propose.f a0_0 a0_1 a0_2 l0_3 a0_4 a0_5 l0_6 a2 a3).bind fun bt539 => ((reefref16_Same.f kj5 bt528.1 bt528.2.1 bt528.2.2.1 bt528.2.2.2.1 bt528.2.2.2.2.1 bt528.2.2.2.2.2.1 bt528.2.2.2.2.2.2 bt539.1 bt539.2.1 bt539.2.2.1 bt539.2.2.2.1 bt539.2.2.2.2.1 bt539.2.2.2.2.2.1 bt539.2.2.2.2.2.2).bind fun t550 => (if t550 = true then ((lead_Ack.f kj5 t493 t494 t495 t496 t499 t500 t501 a3).bind fun bt551 => ((reefref16_Ack.f kj5 a0_0 a0_1 a0_2 l0_3 a0_4 a0_5 l0_6 a3).bind fun bt562 => ((reefref16_Same.f kj5 bt551.1 bt551.2.1 bt551.2.2.1 bt551.2.2.2.1 bt551.2.2.2.2.1 bt551.2.2.2.2.2.1 bt551.2.2.2.2.2.2 bt562.1 bt562.2.1 bt562.2.2.1 bt562.2.2.2.1 bt562.2.2.2.2.1 bt562.2.2.2.2.2.1 bt562.2.2.2.2.2.2).bind fun t573 => (if t573 = true then ((lead_Done.f t493 t494 t495 t496 t499 t500 t501).bind fun bt574 => ((reefref16_Done.f a0_0 a0_1 a0_2 l0_3 a0_4 a0_5 l0_6).bind fun bt585 => ((reefref16_Same.f kj5 bt574.1 bt574.2.1 bt574.2.2.1 bt574.2.2.2.1 bt574.2.2.2.2.1 bt574.2.2.2.2.2.1 bt574.2.2.2.2.2.2 bt585.1 bt585.2.1 bt585.2.2.1 bt585.2.2.2.1 bt585.2.2.2.2.1 bt585.2.2.2.2.2.1 bt585.2.2.2.2.2.2).bind fun t596 => (if t596 = true then ((lead_Chosen.f t493 t494 t495 t496 t499 t500 t501 a4).bind fun t597 => ((reefref16_Chosen.f a0_0 a0_1 a0_2 l0_3 a0_4 a0_5 l0_6 a4).bind fun t598 => (reeflaw16_LeadDoes.j1 kj5 a4 (t597 != t598) a0_0 a0_1 a0_2 l0_3 a0_4 a0_5 l0_6 t493 t494 t495 t496 t499 t500 t501))) else (none))))) else (none))))) else (none))))) = some r := by rw [if_pos rfl] at H; exact H
       clear H
       have H := H1
       clear H1
       replace H := Option.bind_eq_some_iff.mp H
       obtain ⟨⟨t528, t529, t530, t531, t534, t535, t536⟩, A410, H⟩ := H
       replace H : ((reefref16_Propose.f a0_0 a0_1 a0_2 l0_3 a0_4 a0_5 l0_6 a2 a3).bind fun bt539 => ((reefref16_Same.f kj5 t528 t529 t530 t531 t534 t535 t536 bt539.1 bt539.2.1 bt539.2.2.1 bt539.2.2.2.1 bt539.2.2.2.2.1 bt539.2.2.2.2.2.1 bt539.2.2.2.2.2.2).bind fun t550 => (if t550 = true then ((lead_Ack.f kj5 t493 t494 t495 t496 t499 t500 t501 a3).bind fun bt551 => ((reefref16_Ack.f kj5 a0_0 a0_1 a0_2 l0_3 a0_4 a0_5 l0_6 a3).bind fun bt562 => ((reefref16_Same.f kj5 bt551.1 bt551.2.1 bt551.2.2.1 bt551.2.2.2.1 bt551.2.2.2.2.1 bt551.2.2.2.2.2.1 bt551.2.2.2.2.2.2 bt562.1 bt562.2.1 bt562.2.2.1 bt562.2.2.2.1 bt562.2.2.2.2.1 bt562.2.2.2.2.2.1 bt562.2.2.2.2.2.2).bind fun t573 => (if t573 = true then ((lead_Done.f t493 t494 t495 t496 t499 t500 t501).bind fun bt574 => ((reefref16_Done.f a0_0 a0_1 a0_2 l0_3 a0_4 a0_5 l0_6).bind fun bt585 => ((reefref16_Same.f kj5 bt574.1 bt574.2.1 bt574.2.2.1 bt574.2.2.2.1 bt574.2.2.2.2.1 bt574.2.2.2.2.2.1 bt574.2.2.2.2.2.2 bt585.1 bt585.2.1 bt585.2.2.1 bt585.2.2.2.1 bt585.2.2.2.2.1 bt585.2.2.2.2.2.1 bt585.2.2.2.2.2.2).bind fun t596 => (if t596 = true then ((lead_Chosen.f t493 t494 t495 t496 t499 t500 t501 a4).bind fun t597 => ((reefref16_Chosen.f a0_0 a0_1 a0_2 l0_3 a0_4 a0_5 l0_6 a4).bind fun t598 => (reeflaw16_LeadDoes.j1 kj5 a4 (t597 != t598) a0_0 a0_1 a0_2 l0_3 a0_4 a0_5 l0_6 t493 t494 t495 t496 t499 t500 t501))) else (none))))) else (none))))) else (none)))) = some r := H
       have A41 := Aside0.mk A410
       clear A410
       replace H := Option.bind_eq_some_iff.mp H
       obtain ⟨⟨t539, t540, t541, t542, t545, t546, t547⟩, A420, H⟩ := H
       replace H : ((reefref16_Same.f kj5 t528 t529 t530 t531 t534 t535 t536 t539 t540 t541 t542 t545 t546 t547).bind fun t550 => (if t550 = true then ((lead_Ack.f kj5 t493 t494 t495 t496 t499 t500 t501 a3).bind fun bt551 => ((reefref16_Ack.f kj5 a0_0 a0_1 a0_2 l0_3 a0_4 a0_5 l0_6 a3).bind fun bt562 => ((reefref16_Same.f kj5 bt551.1 bt551.2.1 bt551.2.2.1 bt551.2.2.2.1 bt551.2.2.2.2.1 bt551.2.2.2.2.2.1 bt551.2.2.2.2.2.2 bt562.1 bt562.2.1 bt562.2.2.1 bt562.2.2.2.1 bt562.2.2.2.2.1 bt562.2.2.2.2.2.1 bt562.2.2.2.2.2.2).bind fun t573 => (if t573 = true then ((lead_Done.f t493 t494 t495 t496 t499 t500 t501).bind fun bt574 => ((reefref16_Done.f a0_0 a0_1 a0_2 l0_3 a0_4 a0_5 l0_6).bind fun bt585 => ((reefref16_Same.f kj5 bt574.1 bt574.2.1 bt574.2.2.1 bt574.2.2.2.1 bt574.2.2.2.2.1 bt574.2.2.2.2.2.1 bt574.2.2.2.2.2.2 bt585.1 bt585.2.1 bt585.2.2.1 bt585.2.2.2.1 bt585.2.2.2.2.1 bt585.2.2.2.2.2.1 bt585.2.2.2.2.2.2).bind fun t596 => (if t596 = true then ((lead_Chosen.f t493 t494 t495 t496 t499 t500 t501 a4).bind fun t597 => ((reefref16_Chosen.f a0_0 a0_1 a0_2 l0_3 a0_4 a0_5 l0_6 a4).bind fun t598 => (reeflaw16_LeadDoes.j1 kj5 a4 (t597 != t598) a0_0 a0_1 a0_2 l0_3 a0_4 a0_5 l0_6 t493 t494 t495 t496 t499 t500 t501))) else (none))))) else (none))))) else (none))) = some r := H
       have A42 := Aside0.mk A420
       clear A420
       replace H := Option.bind_eq_some_iff.mp H
       obtain ⟨t550, A430, H⟩ := H
       replace H : (if t550 = true then ((lead_Ack.f kj5 t493 t494 t495 t496 t499 t500 t501 a3).bind fun bt551 => ((reefref16_Ack.f kj5 a0_0 a0_1 a0_2 l0_3 a0_4 a0_5 l0_6 a3).bind fun bt562 => ((reefref16_Same.f kj5 bt551.1 bt551.2.1 bt551.2.2.1 bt551.2.2.2.1 bt551.2.2.2.2.1 bt551.2.2.2.2.2.1 bt551.2.2.2.2.2.2 bt562.1 bt562.2.1 bt562.2.2.1 bt562.2.2.2.1 bt562.2.2.2.2.1 bt562.2.2.2.2.2.1 bt562.2.2.2.2.2.2).bind fun t573 => (if t573 = true then ((lead_Done.f t493 t494 t495 t496 t499 t500 t501).bind fun bt574 => ((reefref16_Done.f a0_0 a0_1 a0_2 l0_3 a0_4 a0_5 l0_6).bind fun bt585 => ((reefref16_Same.f kj5 bt574.1 bt574.2.1 bt574.2.2.1 bt574.2.2.2.1 bt574.2.2.2.2.1 bt574.2.2.2.2.2.1 bt574.2.2.2.2.2.2 bt585.1 bt585.2.1 bt585.2.2.1 bt585.2.2.2.1 bt585.2.2.2.2.1 bt585.2.2.2.2.2.1 bt585.2.2.2.2.2.2).bind fun t596 => (if t596 = true then ((lead_Chosen.f t493 t494 t495 t496 t499 t500 t501 a4).bind fun t597 => ((reefref16_Chosen.f a0_0 a0_1 a0_2 l0_3 a0_4 a0_5 l0_6 a4).bind fun t598 => (reeflaw16_LeadDoes.j1 kj5 a4 (t597 != t598) a0_0 a0_1 a0_2 l0_3 a0_4 a0_5 l0_6 t493 t494 t495 t496 t499 t500 t501))) else (none))))) else (none))))) else (none)) = some r := H
       have A43 := Aside0.mk A430
       clear A430
       by_cases c44 : t550 = true
       ·subst c44
        have H1 : ((lead_Ack.f kj5 t493 t494 t495 t496 t499 t500 t501 a3).bind fun bt551 => ((reefref16_Ack.f kj5 a0_0 a0_1 a0_2 l0_3 a0_4 a0_5 l0_6 a3).bind fun bt562 => ((reefref16_Same.f kj5 bt551.1 bt551.2.1 bt551.2.2.1 bt551.2.2.2.1 bt551.2.2.2.2.1 bt551.2.2.2.2.2.1 bt551.2.2.2.2.2.2 bt562.1 bt562.2.1 bt562.2.2.1 bt562.2.2.2.1 bt562.2.2.2.2.1 bt562.2.2.2.2.2.1 bt562.2.2.2.2.2.2).bind fun t573 => (if t573 = true then ((lead_Done.f t493 t494 t495 t496 t499 t500 t501).bind fun bt574 => ((reefref16_Done.f a0_0 a0_1 a0_2 l0_3 a0_4 a0_5 l0_6).bind fun bt585 => ((reefref16_Same.f kj5 bt574.1 bt574.2.1 bt574.2.2.1 bt574.2.2.2.1 bt574.2.2.2.2.1 bt574.2.2.2.2.2.1 bt574.2.2.2.2.2.2 bt585.1 bt585.2.1 bt585.2.2.1 bt585.2.2.2.1 bt585.2.2.2.2.1 bt585.2.2.2.2.2.1 bt585.2.2.2.2.2.2).bind fun t596 => (if t596 = true then ((lead_Chosen.f t493 t494 t495 t496 t499 t500 t501 a4).bind fun t597 => ((reefref16_Chosen.f a0_0 a0_1 a0_2 l0_3 a0_4 a0_5 l0_6 a4).bind fun t598 => (reeflaw16_LeadDoes.j1 kj5 a4 (t597 != t598) a0_0 a0_1 a0_2 l0_3 a0_4 a0_5 l0_6 t493 t494 t495 t496 t499 t500 t501))) else (none))))) else (none))))) = some r := by rw [if_pos rfl] at H; exact H
        clear H
        have H := H1
        clear H1
        replace H := Option.bind_eq_some_iff.mp H
        obtain ⟨⟨t551, t552, t553, t554, t557, t558, t559⟩, A450, H⟩ := H
        replace H : ((reefref16_Ack.f kj5 a0_0 a0_1 a0_2 l0_3 a0_4 a0_5 l0_6 a3).bind fun bt562 => ((reefref16_Same.f kj5 t551 t552 t553 t554 t557 t558 t559 bt562.1 bt562.2.1 bt562.2.2.1 bt562.2.2.2.1 bt562.2.2.2.2.1 bt562.2.2.2.2.2.1 bt562.2.2.2.2.2.2).bind fun t573 => (if t573 = true then ((lead_Done.f t493 t494 t495 t496 t499 t500 t501).bind fun bt574 => ((reefref16_Done.f a0_0 a0_1 a0_2 l0_3 a0_4 a0_5 l0_6).bind fun bt585 => ((reefref16_Same.f kj5 bt574.1 bt574.2.1 bt574.2.2.1 bt574.2.2.2.1 bt574.2.2.2.2.1 bt574.2.2.2.2.2.1 bt574.2.2.2.2.2.2 bt585.1 bt585.2.1 bt585.2.2.1 bt585.2.2.2.1 bt585.2.2.2.2.1 bt585.2.2.2.2.2.1 bt585.2.2.2.2.2.2).bind fun t596 => (if t596 = true then ((lead_Chosen.f t493 t494 t495 t496 t499 t500 t501 a4).bind fun t597 => ((reefref16_Chosen.f a0_0 a0_1 a0_2 l0_3 a0_4 a0_5 l0_6 a4).bind fun t598 => (reeflaw16_LeadDoes.j1 kj5 a4 (t597 != t598) a0_0 a0_1 a0_2 l0_3 a0_4 a0_5 l0_6 t493 t494 t495 t496 t499 t500 t501))) else (none))))) else (none)))) = some r := H
        have A45 := Aside0.mk A450
        clear A450
        replace H := Option.bind_eq_some_iff.mp H
        obtain ⟨⟨t562, t563, t564, t565, t568, t569, t570⟩, A460, H⟩ := H
        replace H : ((reefref16_Same.f kj5 t551 t552 t553 t554 t557 t558 t559 t562 t563 t564 t565 t568 t569 t570).bind fun t573 => (if t573 = true then ((lead_Done.f t493 t494 t495 t496 t499 t500 t501).bind fun bt574 => ((reefref16_Done.f a0_0 a0_1 a0_2 l0_3 a0_4 a0_5 l0_6).bind fun bt585 => ((reefref16_Same.f kj5 bt574.1 bt574.2.1 bt574.2.2.1 bt574.2.2.2.1 bt574.2.2.2.2.1 bt574.2.2.2.2.2.1 bt574.2.2.2.2.2.2 bt585.1 bt585.2.1 bt585.2.2.1 bt585.2.2.2.1 bt585.2.2.2.2.1 bt585.2.2.2.2.2.1 bt585.2.2.2.2.2.2).bind fun t596 => (if t596 = true then ((lead_Chosen.f t493 t494 t495 t496 t499 t500 t501 a4).bind fun t597 => ((reefref16_Chosen.f a0_0 a0_1 a0_2 l0_3 a0_4 a0_5 l0_6 a4).bind fun t598 => (reeflaw16_LeadDoes.j1 kj5 a4 (t597 != t598) a0_0 a0_1 a0_2 l0_3 a0_4 a0_5 l0_6 t493 t494 t495 t496 t499 t500 t501))) else (none))))) else (none))) = some r := H
        have A46 := Aside0.mk A460
        clear A460
        replace H := Option.bind_eq_some_iff.mp H
        obtain ⟨t573, A470, H⟩ := H
        replace H : (if t573 = true then ((lead_Done.f t493 t494 t495 t496 t499 t500 t501).bind fun bt574 => ((reefref16_Done.f a0_0 a0_1 a0_2 l0_3 a0_4 a0_5 l0_6).bind fun bt585 => ((reefref16_Same.f kj5 bt574.1 bt574.2.1 bt574.2.2.1 bt574.2.2.2.1 bt574.2.2.2.2.1 bt574.2.2.2.2.2.1 bt574.2.2.2.2.2.2 bt585.1 bt585.2.1 bt585.2.2.1 bt585.2.2.2.1 bt585.2.2.2.2.1 bt585.2.2.2.2.2.1 bt585.2.2.2.2.2.2).bind fun t596 => (if t596 = true then ((lead_Chosen.f t493 t494 t495 t496 t499 t500 t501 a4).bind fun t597 => ((reefref16_Chosen.f a0_0 a0_1 a0_2 l0_3 a0_4 a0_5 l0_6 a4).bind fun t598 => (reeflaw16_LeadDoes.j1 kj5 a4 (t597 != t598) a0_0 a0_1 a0_2 l0_3 a0_4 a0_5 l0_6 t493 t494 t495 t496 t499 t500 t501))) else (none))))) else (none)) = some r := H
        have A47 := Aside0.mk A470
        clear A470
        by_cases c48 : t573 = true
        ·subst c48
         have H1 : ((lead_Done.f t493 t494 t495 t496 t499 t500 t501).bind fun bt574 => ((reefref16_Done.f a0_0 a0_1 a0_2 l0_3 a0_4 a0_5 l0_6).bind fun bt585 => ((reefref16_Same.f kj5 bt574.1 bt574.2.1 bt574.2.2.1 bt574.2.2.2.1 bt574.2.2.2.2.1 bt574.2.2.2.2.2.1 bt574.2.2.2.2.2.2 bt585.1 bt585.2.1 bt585.2.2.1 bt585.2.2.2.1 bt585.2.2.2.2.1 bt585.2.2.2.2.2.1 bt585.2.2.2.2.2.2).bind fun t596 => (if t596 = true then ((lead_Chosen.f t493 t494 t495 t496 t499 t500 t501 a4).bind fun t597 => ((reefref16_Chosen.f a0_0 a0_1 a0_2 l0_3 a0_4 a0_5 l0_6 a4).bind fun t598 => (reeflaw16_LeadDoes.j1 kj5 a4 (t597 != t598) a0_0 a0_1 a0_2 l0_3 a0_4 a0_5 l0_6 t493 t494 t495 t496 t499 t500 t501))) else (none))))) = some r := by rw [if_pos rfl] at H; exact H
         clear H
         have H := H1
         clear H1
         replace H := Option.bind_eq_some_iff.mp H
         obtain ⟨⟨t574, t575, t576, t577, t580, t581, t582⟩, A490, H⟩ := H
         replace H : ((reefref16_Done.f a0_0 a0_1 a0_2 l0_3 a0_4 a0_5 l0_6).bind fun bt585 => ((reefref16_Same.f kj5 t574 t575 t576 t577 t580 t581 t582 bt585.1 bt585.2.1 bt585.2.2.1 bt585.2.2.2.1 bt585.2.2.2.2.1 bt585.2.2.2.2.2.1 bt585.2.2.2.2.2.2).bind fun t596 => (if t596 = true then ((lead_Chosen.f t493 t494 t495 t496 t499 t500 t501 a4).bind fun t597 => ((reefref16_Chosen.f a0_0 a0_1 a0_2 l0_3 a0_4 a0_5 l0_6 a4).bind fun t598 => (reeflaw16_LeadDoes.j1 kj5 a4 (t597 != t598) a0_0 a0_1 a0_2 l0_3 a0_4 a0_5 l0_6 t493 t494 t495 t496 t499 t500 t501))) else (none)))) = some r := H
         have A49 := Aside0.mk A490
         clear A490
         replace H := Option.bind_eq_some_iff.mp H
         obtain ⟨⟨t585, t586, t587, t588, t591, t592, t593⟩, A500, H⟩ := H
         replace H : ((reefref16_Same.f kj5 t574 t575 t576 t577 t580 t581 t582 t585 t586 t587 t588 t591 t592 t593).bind fun t596 => (if t596 = true then ((lead_Chosen.f t493 t494 t495 t496 t499 t500 t501 a4).bind fun t597 => ((reefref16_Chosen.f a0_0 a0_1 a0_2 l0_3 a0_4 a0_5 l0_6 a4).bind fun t598 => (reeflaw16_LeadDoes.j1 kj5 a4 (t597 != t598) a0_0 a0_1 a0_2 l0_3 a0_4 a0_5 l0_6 t493 t494 t495 t496 t499 t500 t501))) else (none))) = some r := H
         have A50 := Aside0.mk A500
         clear A500
         replace H := Option.bind_eq_some_iff.mp H
         obtain ⟨t596, A510, H⟩ := H
         replace H : (if t596 = true then ((lead_Chosen.f t493 t494 t495 t496 t499 t500 t501 a4).bind fun t597 => ((reefref16_Chosen.f a0_0 a0_1 a0_2 l0_3 a0_4 a0_5 l0_6 a4).bind fun t598 => (reeflaw16_LeadDoes.j1 kj5 a4 (t597 != t598) a0_0 a0_1 a0_2 l0_3 a0_4 a0_5 l0_6 t493 t494 t495 t496 t499 t500 t501))) else (none)) = some r := H
         have A51 := Aside0.mk A510
         clear A510
         by_cases c52 : t596 = true
         ·subst c52
          have H1 : ((lead_Chosen.f t493 t494 t495 t496 t499 t500 t501 a4).bind fun t597 => ((reefref16_Chosen.f a0_0 a0_1 a0_2 l0_3 a0_4 a0_5 l0_6 a4).bind fun t598 => (reeflaw16_LeadDoes.j1 kj5 a4 (t597 != t598) a0_0 a0_1 a0_2 l0_3 a0_4 a0_5 l0_6 t493 t494 t495 t496 t499 t500 t501))) = some r := by rw [if_pos rfl] at H; exact H
          clear H
          have H := H1
          clear H1
          replace H := Option.bind_eq_some_iff.mp H
          obtain ⟨t597, A530, H⟩ := H
          replace H : ((reefref16_Chosen.f a0_0 a0_1 a0_2 l0_3 a0_4 a0_5 l0_6 a4).bind fun t598 => (reeflaw16_LeadDoes.j1 kj5 a4 (t597 != t598) a0_0 a0_1 a0_2 l0_3 a0_4 a0_5 l0_6 t493 t494 t495 t496 t499 t500 t501)) = some r := H
          have A53 := Aside0.mk A530
          clear A530
          replace H := Option.bind_eq_some_iff.mp H
          obtain ⟨t598, A540, H⟩ := H
          replace H : (reeflaw16_LeadDoes.j1 kj5 a4 (t597 != t598) a0_0 a0_1 a0_2 l0_3 a0_4 a0_5 l0_6 t493 t494 t495 t496 t499 t500 t501) = some r := H
          have A54 := Aside0.mk A540
          clear A540
          have H' := Aside0.mk H
          clear H
          try go_wp2
          have n0_ : Aside0 (Kd.R k39 39 (((((((w31.setCell ⟨gb504, 0, none⟩ (.int .i64 t493)).setCell ⟨gb504, 1, none⟩ (.int .i64 t494)).setCell ⟨gb504, 2, none⟩ (.int .i64 t495)).setCell ⟨gb504, 3, none⟩ (.slice Ao35 t496.length co35)).setCell ⟨gb504, 4, none⟩ (.bool t499)).setCell ⟨gb504, 5, none⟩ (.string t500)).setCell ⟨gb504, 6, none⟩ (.slice Ao36 t501.length co36)) w.heap.size (fun _ => True) (.slice Ao35 t496.length co35) t496) := ⟨by (with_reducible repeat (first | apply Kd.R_alloc | apply Kd.R_drewN | apply Kd.R_drew)); exact Kd.R_mono (Kd.R_far (p := ⟨gb504, 6, none⟩) (Kd.R_far (p := ⟨gb504, 5, none⟩) (Kd.R_far (p := ⟨gb504, 4, none⟩) (Kd.R_far (p := ⟨gb504, 3, none⟩) (Kd.R_far (p := ⟨gb504, 2, none⟩) (Kd.R_far (p := ⟨gb504, 1, none⟩) (Kd.R_far (p := ⟨gb504, 0, none⟩) (Kd.R_types HO498.out BK504.out (by decide)) (fun _ hk => hk.2) (.int .i64 t493)) (fun _ hk => hk.2) (.int .i64 t494)) (fun _ hk => hk.2) (.int .i64 t495)) (fun _ hk => hk.2) (.slice Ao35 t496.length co35)) (fun _ hk => hk.2) (.bool t499)) (fun _ hk => hk.2) (.string t500)) (fun _ hk => hk.2) (.slice Ao36 t501.length co36)) (fun _ hk => trivial)⟩
          have n1_ : Aside0 (Kd.R (Kd.int .i64) 3 (((((((w31.setCell ⟨gb504, 0, none⟩ (.int .i64 t493)).setCell ⟨gb504, 1, none⟩ (.int .i64 t494)).setCell ⟨gb504, 2, none⟩ (.int .i64 t495)).setCell ⟨gb504, 3, none⟩ (.slice Ao35 t496.length co35)).setCell ⟨gb504, 4, none⟩ (.bool t499)).setCell ⟨gb504, 5, none⟩ (.string t500)).setCell ⟨gb504, 6, none⟩ (.slice Ao36 t501.length co36)) w.heap.size (fun _ => True) (.slice Ao36 t501.length co36) t501) := ⟨by (with_reducible repeat (first | apply Kd.R_alloc | apply Kd.R_drewN | apply Kd.R_drew)); exact Kd.R_mono (Kd.R_far (p := ⟨gb504, 6, none⟩) (Kd.R_far (p := ⟨gb504, 5, none⟩) (Kd.R_far (p := ⟨gb504, 4, none⟩) (Kd.R_far (p := ⟨gb504, 3, none⟩) (Kd.R_far (p := ⟨gb504, 2, none⟩) (Kd.R_far (p := ⟨gb504, 1, none⟩) (Kd.R_far (p := ⟨gb504, 0, none⟩) (Kd.R_types HO503.out BK504.out (by decide)) (fun _ hk => hk.2) (.int .i64 t493)) (fun _ hk => hk.2) (.int .i64 t494)) (fun _ hk => hk.2) (.int .i64 t495)) (fun _ hk => hk.2) (.slice Ao35 t496.length co35)) (fun _ hk => hk.2) (.bool t499)) (fun _ hk => hk.2) (.string t500)) (fun _ hk => hk.2) (.slice Ao36 t501.length co36)) (fun _ hk => trivial)⟩
          have n2_ : Aside0 ((((((((w31.setCell ⟨gb504, 0, none⟩ (.int .i64 t493)).setCell ⟨gb504, 1, none⟩ (.int .i64 t494)).setCell ⟨gb504, 2, none⟩ (.int .i64 t495)).setCell ⟨gb504, 3, none⟩ (.slice Ao35 t496.length co35)).setCell ⟨gb504, 4, none⟩ (.bool t499)).setCell ⟨gb504, 5, none⟩ (.string t500)).setCell ⟨gb504, 6, none⟩ (.slice Ao36 t501.length co36)).heap[gb475]? = some (.cells #[.int .i64 a0_0, .int .i64 a0_1, .int .i64 a0_2, .slice A0_3 l0_3.length c0_3, .bool a0_4, .string a0_5, .slice A0_6 l0_6.length c0_6] 37 (0, 0))) := ⟨by (with_reducible repeat (first | apply bN | apply bD | apply bA)); refine blk_far ?_ NB475_504.out _; (with_reducible repeat (first | apply bN | apply bD | apply bA)); refine blk_far ?_ NB475_504.out _; (with_reducible repeat (first | apply bN | apply bD | apply bA)); refine blk_far ?_ NB475_504.out _; (with_reducible repeat (first | apply bN | apply bD | apply bA)); refine blk_far ?_ NB475_504.out _; (with_reducible repeat (first | apply bN | apply bD | apply bA)); refine blk_far ?_ NB475_504.out _; (with_reducible repeat (first | apply bN | apply bD | apply bA)); refine blk_far ?_ NB475_504.out _; (with_reducible repeat (first | apply bN | apply bD | apply bA)); refine blk_far ?_ NB475_504.out _; (with_reducible repeat (first | apply bN | apply bD | apply bA)); exact BK475.out⟩
          have n3_ : Aside0 ((((((((w31.setCell ⟨gb504, 0, none⟩ (.int .i64 t493)).setCell ⟨gb504, 1, none⟩ (.int .i64 t494)).setCell ⟨gb504, 2, none⟩ (.int .i64 t495)).setCell ⟨gb504, 3, none⟩ (.slice Ao35 t496.length co35)).setCell ⟨gb504, 4, none⟩ (.bool t499)).setCell ⟨gb504, 5, none⟩ (.string t500)).setCell ⟨gb504, 6, none⟩ (.slice Ao36 t501.length co36)).heap[gb476]? = some (.cells #[.int .i64 a1_0, .int .i64 a1_1, .int .i64 a1_2, .slice A1_3 l1_3.length c1_3, .bool a1_4, .string a1_5, .slice A1_6 l1_6.length c1_6] 37 (0, 0))) := ⟨by (with_reducible repeat (first | apply bN | apply bD | apply bA)); refine blk_far ?_ NB476_504.out _; (with_reducible repeat (first | apply bN | apply bD | apply bA)); refine blk_far ?_ NB476_504.out _; (with_reducible repeat (first | apply bN | apply bD | apply bA)); refine blk_far ?_ NB476_504.out _; (with_reducible repeat (first | apply bN | apply bD | apply bA)); refine blk_far ?_ NB476_504.out _; (with_reducible repeat (first | apply bN | apply bD | apply bA)); refine blk_far ?_ NB476_504.out _; (with_reducible repeat (first | apply bN | apply bD | apply bA)); refine blk_far ?_ NB476_504.out _; (with_reducible repeat (first | apply bN | apply bD | apply bA)); refine blk_far ?_ NB476_504.out _; (with_reducible repeat (first | apply bN | apply bD | apply bA)); exact BK476.out⟩
          have n4_ : Aside0 ((((((((w31.setCell ⟨gb504, 0, none⟩ (.int .i64 t493)).setCell ⟨gb504, 1, none⟩ (.int .i64 t494)).setCell ⟨gb504, 2, none⟩ (.int .i64 t495)).setCell ⟨gb504, 3, none⟩ (.slice Ao35 t496.length co35)).setCell ⟨gb504, 4, none⟩ (.bool t499)).setCell ⟨gb504, 5, none⟩ (.string t500)).setCell ⟨gb504, 6, none⟩ (.slice Ao36 t501.length co36)).heap[gb504]? = some (.cells #[.int .i64 t493, .int .i64 t494, .int .i64 t495, .slice Ao35 t496.length co35, .bool t499, .string t500, .slice Ao36 t501.length co36] 37 (0, 0))) := ⟨by (with_reducible repeat (first | apply bN | apply bD | apply bA)); refine blk_put (cs := #[.int .i64 t493, .int .i64 t494, .int .i64 t495, .slice Ao35 t496.length co35, .bool t499, .string t500, .slice none 0 0]) ?_ 6 _ rfl; (with_reducible repeat (first | apply bN | apply bD | apply bA)); refine blk_put (cs := #[.int .i64 t493, .int .i64 t494, .int .i64 t495, .slice Ao35 t496.length co35, .bool t499, .string (⟨#[]⟩ : ByteArray), .slice none 0 0]) ?_ 5 _ rfl; (with_reducible repeat (first | apply bN | apply bD | apply bA)); refine blk_put (cs := #[.int .i64 t493, .int .i64 t494, .int .i64 t495, .slice Ao35 t496.length co35, .bool false, .string (⟨#[]⟩ : ByteArray), .slice none 0 0]) ?_ 4 _ rfl; (with_reducible repeat (first | apply bN | apply bD | apply bA)); refine blk_put (cs := #[.int .i64 t493, .int .i64 t494, .int .i64 t495, .slice none 0 0, .bool false, .string (⟨#[]⟩ : ByteArray), .slice none 0 0]) ?_ 3 _ rfl; (with_reducible repeat (first | apply bN | apply bD | apply bA)); refine blk_put (cs := #[.int .i64 t493, .int .i64 t494, .int .i64 0, .slice none 0 0, .bool false, .string (⟨#[]⟩ : ByteArray), .slice none 0 0]) ?_ 2 _ rfl; (with_reducible repeat (first | apply bN | apply bD | apply bA)); refine blk_put (cs := #[.int .i64 t493, .int .i64 0, .int .i64 0, .slice none 0 0, .bool false, .string (⟨#[]⟩ : ByteArray), .slice none 0 0]) ?_ 1 _ rfl; (with_reducible repeat (first | apply bN | apply bD | apply bA)); refine blk_put (cs := #[.int .i64 0, .int .i64 0, .int .i64 0, .slice none 0 0, .bool false, .string (⟨#[]⟩ : ByteArray), .slice none 0 0]) ?_ 0 _ rfl; (with_reducible repeat (first | apply bN | apply bD | apply bA)); exact BK504.out⟩
          have n5_ : Aside0 (Below w.heap.size w (((((((w31.setCell ⟨gb504, 0, none⟩ (.int .i64 t493)).setCell ⟨gb504, 1, none⟩ (.int .i64 t494)).setCell ⟨gb504, 2, none⟩ (.int .i64 t495)).setCell ⟨gb504, 3, none⟩ (.slice Ao35 t496.length co35)).setCell ⟨gb504, 4, none⟩ (.bool t499)).setCell ⟨gb504, 5, none⟩ (.string t500)).setCell ⟨gb504, 6, none⟩ (.slice Ao36 t501.length co36))) := ⟨bel HB.out⟩
          (try clear HO498)
          (try clear HO503)
          (try clear BK475)
          (try clear BK476)
          (try clear BK504)
          (try clear HB)
          generalize (((((((w31.setCell ⟨gb504, 0, none⟩ (.int .i64 t493)).setCell ⟨gb504, 1, none⟩ (.int .i64 t494)).setCell ⟨gb504, 2, none⟩ (.int .i64 t495)).setCell ⟨gb504, 3, none⟩ (.slice Ao35 t496.length co35)).setCell ⟨gb504, 4, none⟩ (.bool t499)).setCell ⟨gb504, 5, none⟩ (.string t500)).setCell ⟨gb504, 6, none⟩ (.slice Ao36 t501.length co36)) = w55 at n0_ n1_ n2_ n3_ n4_ n5_ ⊢
          have HO498 := n0_
          have HO503 := n1_
          have BK475 := n2_
          have BK476 := n3_
          have BK504 := n4_
          have HB := n5_
          clear n0_ n1_ n2_ n3_ n4_ n5_
          have n0_ := Aside0.mk (Kd.R_drew HO498.out)
          have n1_ := Aside0.mk (Kd.R_drew HO503.out)
          have n2_ := Aside0.mk (blk_drew BK475.out)
          have n3_ := Aside0.mk (blk_drew BK476.out)
          have n4_ := Aside0.mk (blk_drew BK504.out)
          have n5_ := Aside0.mk (below_drew1 HB.out)
          clear HO498
          clear HO503
          clear BK475
          clear BK476
          clear BK504
          clear HB
          have HO498 := n0_
          have HO503 := n1_
          have BK475 := n2_
          have BK476 := n3_
          have BK504 := n4_
          have HB := n5_
          clear n0_ n1_ n2_ n3_ n4_ n5_
          refine start_ (n := 45) (S := fun w' => w'.cell? ⟨gb504, 0, none⟩ = some (.int .i64 t493) ∧ w'.cell? ⟨gb504, 1, none⟩ = some (.int .i64 t494) ∧ w'.cell? ⟨gb504, 2, none⟩ = some (.int .i64 t495) ∧ w'.cell? ⟨gb504, 3, none⟩ = some (.slice Ao35 t496.length co35) ∧ w'.cell? ⟨gb504, 4, none⟩ = some (.bool t499) ∧ w'.cell? ⟨gb504, 5, none⟩ = some (.string t500) ∧ w'.cell? ⟨gb504, 6, none⟩ = some (.slice Ao36 t501.length co36) ∧ w'.cell? ⟨gb475, 0, none⟩ = some (.int .i64 a0_0) ∧ w'.cell? ⟨gb475, 1, none⟩ = some (.int .i64 a0_1) ∧ w'.cell? ⟨gb475, 2, none⟩ = some (.int .i64 a0_2) ∧ w'.cell? ⟨gb475, 3, none⟩ = some (.slice A0_3 l0_3.length c0_3) ∧ w'.cell? ⟨gb475, 4, none⟩ = some (.bool a0_4) ∧ w'.cell? ⟨gb475, 5, none⟩ = some (.string a0_5) ∧ w'.cell? ⟨gb475, 6, none⟩ = some (.slice A0_6 l0_6.length c0_6)) (ds := []) #[false, false, false, false, false, false, false, false, false, false, false, false, false, false, false, false, false, false, false, false, false, false, false, false, false, false, false, false, false, false, false, false, false, false, false, false, false, false, false, false, false, false, false, false, false] (by kernel_rfl) rfl rfl ⟨(blk_cell BK504.out 0).trans rfl, (blk_cell BK504.out 1).trans rfl, (blk_cell BK504.out 2).trans rfl, (blk_cell BK504.out 3).trans rfl, (blk_cell BK504.out 4).trans rfl, (blk_cell BK504.out 5).trans rfl, (blk_cell BK504.out 6).trans rfl, (blk_cell BK475.out 0).trans rfl, (blk_cell BK475.out 1).trans rfl, (blk_cell BK475.out 2).trans rfl, (blk_cell BK475.out 3).trans rfl, (blk_cell BK475.out 4).trans rfl, (blk_cell BK475.out 5).trans rfl, (blk_cell BK475.out 6).trans rfl⟩ (fun hHeld => ?_); refine with_tabW reeflaw16_LeadDoes.tab6 reeflaw16_LeadDoes.bits6 (fun HT_ HW_ => ?_)
          generalize w55.drew = w56 at HO498 HO503 BK475 BK476 BK504 HB hHeld ⊢
          refine take_ (i := 0) (N := some 35) (v := ?_) (a' := ?_) #[true, false, false, false, false, false, false, false, false, false, false, false, false, false, false, false, false, false, false, false, false, false, false, false, false, false, false, false, false, false, false, false, false, false, false, false, false, false, false, false, false, false, false, false, false] rfl rfl (take_ofW HT_.out HW_.out (by kernel_rfl)) (fun _ _ _ h => h) (Or.inl ⟨by rfl, ?_⟩) hHeld ?_ ?_
          rotate_left
          ·rintro w' ⟨s0, s1, s2, s3, s4, s5, s6, s7, s8, s9, s10, s11, s12, s13⟩
           go_simp
           with_reducible rfl
          rotate_left
          ·simp only [Act.put, List.setIfInBounds_toArray, List.set_cons_zero, List.set_cons_succ, i64_w, i32_w]
           rfl
          refine take_ (i := 2) (N := some 37) (v := ?_) (a' := ?_) #[true, false, true, false, false, false, false, false, false, false, false, false, false, false, false, false, false, false, false, false, false, false, false, false, false, false, false, false, false, false, false, false, false, false, false, false, false, false, false, false, false, false, false, false, false] rfl rfl (take_ofW HT_.out HW_.out (by kernel_rfl)) (fun _ _ _ h => h) (Or.inl ⟨by rfl, ?_⟩) hHeld ?_ ?_
          rotate_left
          ·rintro w' ⟨s0, s1, s2, s3, s4, s5, s6, s7, s8, s9, s10, s11, s12, s13⟩
           go_simp
           with_reducible rfl
          rotate_left
          ·simp only [Act.put, List.setIfInBounds_toArray, List.set_cons_zero, List.set_cons_succ, i64_w, i32_w]
           rfl
          refine one_ (i := 1) (N := some 36) #[true, true, true, false, false, false, false, false, false, false, false, false, false, false, false, false, false, false, false, false, false, false, false, false, false, false, false, false, false, false, false, false, false, false, false, false, false, false, false, false, false, false, false, false, false] rfl rfl (one_of HT_.out (by kernel_rfl)) (by decide) (fun K hK => ?_)
          refine goes_ Try.func26 (by kernel_rfl) rfl #[.agg #[.int .i64 t493, .int .i64 t494, .int .i64 t495, .slice Ao35 t496.length co35, .bool t499, .string t500, .slice Ao36 t501.length co36]] (by rfl) rfl rfl (by (try simp only [List.map_toArray, List.map_cons, List.map_nil]); first | done | rfl | (simp only [List.length_drop, List.length_take]; rfl)) ?_
          with_reducible refine (lead_Lead.calls t493 t494 t495 _ _ t496 t499 t500 _ _ t501 t505 t506 t507 t508 t511 t512 t513 _ ?side1 ?side2 ?side3 ?side4 A37.out).mono ?_
          (case side1 => repeat (first | exact (Kd.R_reads' HO498.out).2.2 | (with_reducible refine Kd.C_alloc ?_ _) | (with_reducible refine Kd.C_drewN ?_ _) | (with_reducible refine Kd.C_drew ?_)))
          (case side2 => exact (Kd.R_reads' HO498.out).2.1)
          (case side3 => repeat (first | exact (Kd.R_reads' HO503.out).2.2 | (with_reducible refine Kd.C_alloc ?_ _) | (with_reducible refine Kd.C_drewN ?_ _) | (with_reducible refine Kd.C_drew ?_)))
          (case side4 => exact (Kd.R_reads' HO503.out).2.1)
          rintro e w57 ⟨v509, v514, rfl, ho0, ho1, hb⟩
          refine ⟨_, rfl, ?_⟩
          have n0_ := Aside0.mk (Kd.R_elder' (Kd.R_up HO498.out) (Kd.R_base ho0) hb)
          have n1_ := Aside0.mk (Kd.R_elder' (Kd.R_up HO503.out) (Kd.R_base ho1) hb)
          have n2_ := Aside0.mk (Kd.R_lower (Kd.R_new' ho0 (Kd.R_lt (Kd.R_up HO498.out))) (below_size (bel HB.out)))
          have n3_ := Aside0.mk (Kd.R_lower (Kd.R_new' ho1 (Kd.R_lt (Kd.R_up HO503.out))) (below_size (bel HB.out)))
          have n4_ := Aside0.mk (blk_below (g := gb475) (o := .cells #[.int .i64 a0_0, .int .i64 a0_1, .int .i64 a0_2, .slice A0_3 l0_3.length c0_3, .bool a0_4, .string a0_5, .slice A0_6 l0_6.length c0_6] 37 (0, 0)) (bup BK475.out) hb)
          have n5_ := Aside0.mk (blk_below (g := gb476) (o := .cells #[.int .i64 a1_0, .int .i64 a1_1, .int .i64 a1_2, .slice A1_3 l1_3.length c1_3, .bool a1_4, .string a1_5, .slice A1_6 l1_6.length c1_6] 37 (0, 0)) (bup BK476.out) hb)
          have n6_ := Aside0.mk (blk_below (g := gb504) (o := .cells #[.int .i64 t493, .int .i64 t494, .int .i64 t495, .slice Ao35 t496.length co35, .bool t499, .string t500, .slice Ao36 t501.length co36] 37 (0, 0)) (bup BK504.out) hb)
          have n7_ := Aside0.mk (below_step (bel HB.out) hb)
          clear HO498
          clear HO503
          clear BK475
          clear BK476
          clear BK504
          clear HB
          have HO498 := n0_
          have HO503 := n1_
          have HO510 := n2_
          have HO515 := n3_
          have BK475 := n4_
          have BK476 := n5_
          have BK504 := n6_
          have HB := n7_
          clear n0_ n1_ n2_ n3_ n4_ n5_ n6_ n7_
          (try clear hb)
          (try clear hb2)
          (try clear hk)
          (try clear hi)
          (try clear ho0)
          (try clear ho1)
          refine hK.out _ _ ⟨(blk_cell BK504.out 0).trans rfl, (blk_cell BK504.out 1).trans rfl, (blk_cell BK504.out 2).trans rfl, (blk_cell BK504.out 3).trans rfl, (blk_cell BK504.out 4).trans rfl, (blk_cell BK504.out 5).trans rfl, (blk_cell BK504.out 6).trans rfl, (blk_cell BK475.out 0).trans rfl, (blk_cell BK475.out 1).trans rfl, (blk_cell BK475.out 2).trans rfl, (blk_cell BK475.out 3).trans rfl, (blk_cell BK475.out 4).trans rfl, (blk_cell BK475.out 5).trans rfl, (blk_cell BK475.out 6).trans rfl⟩ (fun hHeld => ?_)
          clear hK K
          refine norm_ (a' := ?_) ?_ ?_
          rotate_left
          ·show Act.put _ (some 36) _ = _
           simp only [Act.put, List.setIfInBounds_toArray, List.set_cons_zero, List.set_cons_succ, i64_w, i32_w]
           rfl
          refine one_ (i := 3) (N := some 38) #[true, true, true, true, false, false, false, false, false, false, false, false, false, false, false, false, false, false, false, false, false, false, false, false, false, false, false, false, false, false, false, false, false, false, false, false, false, false, false, false, false, false, false, false, false] rfl rfl (one_of HT_.out (by kernel_rfl)) (by decide) (fun K hK => ?_)
          refine goes_ Try.func27 (by kernel_rfl) rfl #[.agg #[.int .i64 a0_0, .int .i64 a0_1, .int .i64 a0_2, .slice A0_3 l0_3.length c0_3, .bool a0_4, .string a0_5, .slice A0_6 l0_6.length c0_6]] (by rfl) rfl rfl (by (try simp only [List.map_toArray, List.map_cons, List.map_nil]); first | done | rfl | (simp only [List.length_drop, List.length_take]; rfl)) ?_
          with_reducible refine (reefref16_Lead.calls a0_0 a0_1 a0_2 _ _ l0_3 a0_4 a0_5 _ _ l0_6 t516 t517 t518 t519 t522 t523 t524 _ ?side1 ?side2 ?side3 ?side4 A38.out).mono ?_
          (case side1 => exact Kd.C_up (Kd.C_below HR0_3.out HB.out))
          (case side2 => exact HC0_3.out)
          (case side3 => exact Kd.C_up (Kd.C_below HR0_6.out HB.out))
          (case side4 => exact HC0_6.out)
          rintro e w58 ⟨v520, v525, rfl, ho0, ho1, hb⟩
          refine ⟨_, rfl, ?_⟩
          have n0_ := Aside0.mk (Kd.R_elder' (Kd.R_up HO498.out) (Kd.R_base ho0) hb)
          have n1_ := Aside0.mk (Kd.R_elder' (Kd.R_up HO503.out) (Kd.R_base ho1) hb)
          have n2_ := Aside0.mk (Kd.R_elder' (Kd.R_up HO510.out) (Kd.R_base ho0) hb)
          have n3_ := Aside0.mk (Kd.R_elder' (Kd.R_up HO515.out) (Kd.R_base ho1) hb)
          have n4_ := Aside0.mk (Kd.R_lower (Kd.R_new' (Kd.R_new' ho0 (Kd.R_lt (Kd.R_up HO498.out))) (Kd.R_lt (Kd.R_up HO510.out))) (below_size (bel HB.out)))
          have n5_ := Aside0.mk (Kd.R_lower (Kd.R_new' (Kd.R_new' ho1 (Kd.R_lt (Kd.R_up HO503.out))) (Kd.R_lt (Kd.R_up HO515.out))) (below_size (bel HB.out)))
          have n6_ := Aside0.mk (blk_below (g := gb475) (o := .cells #[.int .i64 a0_0, .int .i64 a0_1, .int .i64 a0_2, .slice A0_3 l0_3.length c0_3, .bool a0_4, .string a0_5, .slice A0_6 l0_6.length c0_6] 37 (0, 0)) (bup BK475.out) hb)
          have n7_ := Aside0.mk (blk_below (g := gb476) (o := .cells #[.int .i64 a1_0, .int .i64 a1_1, .int .i64 a1_2, .slice A1_3 l1_3.length c1_3, .bool a1_4, .string a1_5, .slice A1_6 l1_6.length c1_6] 37 (0, 0)) (bup BK476.out) hb)
          have n8_ := Aside0.mk (blk_below (g := gb504) (o := .cells #[.int .i64 t493, .int .i64 t494, .int .i64 t495, .slice Ao35 t496.length co35, .bool t499, .string t500, .slice Ao36 t501.length co36] 37 (0, 0)) (bup BK504.out) hb)
          have n9_ := Aside0.mk (below_step (bel HB.out) hb)
          clear HO498
          clear HO503
          clear HO510
          clear HO515
          clear BK475
          clear BK476
          clear BK504
          clear HB
          have HO498 := n0_
          have HO503 := n1_
          have HO510 := n2_
          have HO515 := n3_
          have HO521 := n4_
          have HO526 := n5_
          have BK475 := n6_
          have BK476 := n7_
          have BK504 := n8_
          have HB := n9_
          clear n0_ n1_ n2_ n3_ n4_ n5_ n6_ n7_ n8_ n9_
          (try clear hb)
          (try clear hb2)
          (try clear hk)
          (try clear hi)
          (try clear ho0)
          (try clear ho1)
          obtain ⟨Ao59, co59, eo59⟩ := Kd.R_slice HO510.out
          (first | subst eo59 | (injection eo59 with f1_ f2_ f3_; have f4_ := f1_.symm; have f5_ := f3_.symm; clear f1_ f2_ f3_; subst f4_; subst f5_))
          obtain ⟨Ao60, co60, eo60⟩ := Kd.R_slice HO515.out
          (first | subst eo60 | (injection eo60 with f1_ f2_ f3_; have f4_ := f1_.symm; have f5_ := f3_.symm; clear f1_ f2_ f3_; subst f4_; subst f5_))
          obtain ⟨Ao61, co61, eo61⟩ := Kd.R_slice HO521.out
          (first | subst eo61 | (injection eo61 with f1_ f2_ f3_; have f4_ := f1_.symm; have f5_ := f3_.symm; clear f1_ f2_ f3_; subst f4_; subst f5_))
          obtain ⟨Ao62, co62, eo62⟩ := Kd.R_slice HO526.out
          (first | subst eo62 | (injection eo62 with f1_ f2_ f3_; have f4_ := f1_.symm; have f5_ := f3_.symm; clear f1_ f2_ f3_; subst f4_; subst f5_))
          refine hK.out _ _ ⟨(blk_cell BK504.out 0).trans rfl, (blk_cell BK504.out 1).trans rfl, (blk_cell BK504.out 2).trans rfl, (blk_cell BK504.out 3).trans rfl, (blk_cell BK504.out 4).trans rfl, (blk_cell BK504.out 5).trans rfl, (blk_cell BK504.out 6).trans rfl, (blk_cell BK475.out 0).trans rfl, (blk_cell BK475.out 1).trans rfl, (blk_cell BK475.out 2).trans rfl, (blk_cell BK475.out 3).trans rfl, (blk_cell BK475.out 4).trans rfl, (blk_cell BK475.out 5).trans rfl, (blk_cell BK475.out 6).trans rfl⟩ (fun hHeld => ?_)
          clear hK K
          refine norm_ (a' := ?_) ?_ ?_
          rotate_left
          ·show Act.put _ (some 38) _ = _
           simp only [Act.put, List.setIfInBounds_toArray, List.set_cons_zero, List.set_cons_succ, i64_w, i32_w]
           rfl
          refine one_ (i := 4) (N := some 39) #[true, true, true, true, true, false, false, false, false, false, false, false, false, false, false, false, false, false, false, false, false, false, false, false, false, false, false, false, false, false, false, false, false, false, false, false, false, false, false, false, false, false, false, false, false] rfl rfl (one_of HT_.out (by kernel_rfl)) (by decide) (fun K hK => ?_)
          refine goes_ Try.func19 (by kernel_rfl) rfl #[.agg #[.int .i64 t505, .int .i64 t506, .int .i64 t507, .slice Ao59 t508.length co59, .bool t511, .string t512, .slice Ao60 t513.length co60], .agg #[.int .i64 t516, .int .i64 t517, .int .i64 t518, .slice Ao61 t519.length co61, .bool t522, .string t523, .slice Ao62 t524.length co62]] (by rfl) rfl rfl (by (try simp only [List.map_toArray, List.map_cons, List.map_nil]); first | done | rfl | (simp only [List.length_drop, List.length_take]; rfl)) ?_
          with_reducible refine (reefref16_Same.calls kj5 t505 t506 t507 _ _ t508 t511 t512 _ _ t513 t516 t517 t518 _ _ t519 t522 t523 _ _ t524 true _ ?side1 ?side2 ?side3 ?side4 ?side5 ?side6 ?side7 ?side8 A39.out).mono ?_
          (case side1 => repeat (first | exact (Kd.R_reads' HO510.out).2.2 | (with_reducible refine Kd.C_alloc ?_ _) | (with_reducible refine Kd.C_drewN ?_ _) | (with_reducible refine Kd.C_drew ?_)))
          (case side2 => exact (Kd.R_reads' HO510.out).2.1)
          (case side3 => repeat (first | exact (Kd.R_reads' HO515.out).2.2 | (with_reducible refine Kd.C_alloc ?_ _) | (with_reducible refine Kd.C_drewN ?_ _) | (with_reducible refine Kd.C_drew ?_)))
          (case side4 => exact (Kd.R_reads' HO515.out).2.1)
          (case side5 => repeat (first | exact (Kd.R_reads' HO521.out).2.2 | (with_reducible refine Kd.C_alloc ?_ _) | (with_reducible refine Kd.C_drewN ?_ _) | (with_reducible refine Kd.C_drew ?_)))
          (case side6 => exact (Kd.R_reads' HO521.out).2.1)
          (case side7 => repeat (first | exact (Kd.R_reads' HO526.out).2.2 | (with_reducible refine Kd.C_alloc ?_ _) | (with_reducible refine Kd.C_drewN ?_ _) | (with_reducible refine Kd.C_drew ?_)))
          (case side8 => exact (Kd.R_reads' HO526.out).2.1)
          rintro e w63 ⟨rfl, hb⟩
          refine ⟨_, rfl, ?_⟩
          have n0_ := Aside0.mk (Kd.R_below (Kd.R_up HO498.out) hb)
          have n1_ := Aside0.mk (Kd.R_below (Kd.R_up HO503.out) hb)
          have n2_ := Aside0.mk (Kd.R_below (Kd.R_up HO510.out) hb)
          have n3_ := Aside0.mk (Kd.R_below (Kd.R_up HO515.out) hb)
          have n4_ := Aside0.mk (Kd.R_below (Kd.R_up HO521.out) hb)
          have n5_ := Aside0.mk (Kd.R_below (Kd.R_up HO526.out) hb)
          have n6_ := Aside0.mk (blk_below (g := gb475) (o := .cells #[.int .i64 a0_0, .int .i64 a0_1, .int .i64 a0_2, .slice A0_3 l0_3.length c0_3, .bool a0_4, .string a0_5, .slice A0_6 l0_6.length c0_6] 37 (0, 0)) (bup BK475.out) hb)
          have n7_ := Aside0.mk (blk_below (g := gb476) (o := .cells #[.int .i64 a1_0, .int .i64 a1_1, .int .i64 a1_2, .slice A1_3 l1_3.length c1_3, .bool a1_4, .string a1_5, .slice A1_6 l1_6.length c1_6] 37 (0, 0)) (bup BK476.out) hb)
          have n8_ := Aside0.mk (blk_below (g := gb504) (o := .cells #[.int .i64 t493, .int .i64 t494, .int .i64 t495, .slice Ao35 t496.length co35, .bool t499, .string t500, .slice Ao36 t501.length co36] 37 (0, 0)) (bup BK504.out) hb)
          have n9_ := Aside0.mk (below_step (bel HB.out) hb)
          clear HO498
          clear HO503
          clear HO510
          clear HO515
          clear HO521
          clear HO526
          clear BK475
          clear BK476
          clear BK504
          clear HB
          have HO498 := n0_
          have HO503 := n1_
          have HO510 := n2_
          have HO515 := n3_
          have HO521 := n4_
          have HO526 := n5_
          have BK475 := n6_
          have BK476 := n7_
          have BK504 := n8_
          have HB := n9_
          clear n0_ n1_ n2_ n3_ n4_ n5_ n6_ n7_ n8_ n9_
          (try clear hb)
          (try clear hb2)
          (try clear hk)
          (try clear hi)
          refine hK.out _ _ ⟨(blk_cell BK504.out 0).trans rfl, (blk_cell BK504.out 1).trans rfl, (blk_cell BK504.out 2).trans rfl, (blk_cell BK504.out 3).trans rfl, (blk_cell BK504.out 4).trans rfl, (blk_cell BK504.out 5).trans rfl, (blk_cell BK504.out 6).trans rfl, (blk_cell BK475.out 0).trans rfl, (blk_cell BK475.out 1).trans rfl, (blk_cell BK475.out 2).trans rfl, (blk_cell BK475.out 3).trans rfl, (blk_cell BK475.out 4).trans rfl, (blk_cell BK475.out 5).trans rfl, (blk_cell BK475.out 6).trans rfl⟩ (fun hHeld => ?_)
          clear hK K
          refine norm_ (a' := ?_) ?_ ?_
          rotate_left
          ·show Act.put _ (some 39) _ = _
           simp only [Act.put, List.setIfInBounds_toArray, List.set_cons_zero, List.set_cons_succ, i64_w, i32_w]
           rfl
          refine pure_ (i := 5) (N := some 40) (v := ?_) (a' := ?_) #[true, true, true, true, true, true, false, false, false, false, false, false, false, false, false, false, false, false, false, false, false, false, false, false, false, false, false, false, false, false, false, false, false, false, false, false, false, false, false, false, false, false, false, false, false] rfl rfl (any_of HT_.out (by kernel_rfl)) (fun _ _ _ h => h) (Or.inl ⟨by rfl, ?_⟩) ?_ ?_
          rotate_left
          ·intro w'
           go_simp
           with_reducible rfl
          rotate_left
          ·simp only [Act.put, List.setIfInBounds_toArray, List.set_cons_zero, List.set_cons_succ, i64_w, i32_w]
           rfl
          refine pure_ (i := 6) (N := some 41) (v := ?_) (a' := ?_) #[true, true, true, true, true, true, true, false, false, false, false, false, false, false, false, false, false, false, false, false, false, false, false, false, false, false, false, false, false, false, false, false, false, false, false, false, false, false, false, false, false, false, false, false, false] rfl rfl (any_of HT_.out (by kernel_rfl)) (fun _ _ _ h => h) (Or.inl ⟨by rfl, ?_⟩) ?_ ?_
          rotate_left
          ·intro w'
           go_simp
           with_reducible rfl
          rotate_left
          ·simp only [Act.put, List.setIfInBounds_toArray, List.set_cons_zero, List.set_cons_succ, i64_w, i32_w]
           rfl
          refine pure_ (i := 8) (N := some 43) (v := ?_) (a' := ?_) #[true, true, true, true, true, true, true, false, true, false, false, false, false, false, false, false, false, false, false, false, false, false, false, false, false, false, false, false, false, false, false, false, false, false, false, false, false, false, false, false, false, false, false, false, false] rfl rfl (any_of HT_.out (by kernel_rfl)) (fun _ _ _ h => h) (Or.inl ⟨by rfl, ?_⟩) ?_ ?_
          rotate_left
          ·intro w'
           go_simp
           with_reducible rfl
          rotate_left
          ·simp only [Act.put, List.setIfInBounds_toArray, List.set_cons_zero, List.set_cons_succ, i64_w, i32_w]
           rfl
          refine pure_ (i := 9) (N := some 44) (v := ?_) (a' := ?_) #[true, true, true, true, true, true, true, false, true, true, false, false, false, false, false, false, false, false, false, false, false, false, false, false, false, false, false, false, false, false, false, false, false, false, false, false, false, false, false, false, false, false, false, false, false] rfl rfl (any_of HT_.out (by kernel_rfl)) (fun _ _ _ h => h) (Or.inl ⟨by rfl, ?_⟩) ?_ ?_
          rotate_left
          ·intro w'
           go_simp
           with_reducible rfl
          rotate_left
          ·simp only [Act.put, List.setIfInBounds_toArray, List.set_cons_zero, List.set_cons_succ, i64_w, i32_w]
           rfl
          refine pure_ (i := 12) (N := some 47) (v := ?_) (a' := ?_) #[true, true, true, true, true, true, true, false, true, true, false, false, true, false, false, false, false, false, false, false, false, false, false, false, false, false, false, false, false, false, false, false, false, false, false, false, false, false, false, false, false, false, false, false, false] rfl rfl (any_of HT_.out (by kernel_rfl)) (fun _ _ _ h => h) (Or.inl ⟨by rfl, ?_⟩) ?_ ?_
          rotate_left
          ·intro w'
           go_simp
           with_reducible rfl
          rotate_left
          ·simp only [Act.put, List.setIfInBounds_toArray, List.set_cons_zero, List.set_cons_succ, i64_w, i32_w]
           rfl
          refine pure_ (i := 13) (N := some 48) (v := ?_) (a' := ?_) #[true, true, true, true, true, true, true, false, true, true, false, false, true, true, false, false, false, false, false, false, false, false, false, false, false, false, false, false, false, false, false, false, false, false, false, false, false, false, false, false, false, false, false, false, false] rfl rfl (any_of HT_.out (by kernel_rfl)) (fun _ _ _ h => h) (Or.inl ⟨by rfl, ?_⟩) ?_ ?_
          rotate_left
          ·intro w'
           go_simp
           with_reducible rfl
          rotate_left
          ·simp only [Act.put, List.setIfInBounds_toArray, List.set_cons_zero, List.set_cons_succ, i64_w, i32_w]
           rfl
          refine take_ (i := 7) (N := some 42) (v := ?_) (a' := ?_) #[true, true, true, true, true, true, true, true, true, true, false, false, true, true, false, false, false, false, false, false, false, false, false, false, false, false, false, false, false, false, false, false, false, false, false, false, false, false, false, false, false, false, false, false, false] rfl rfl (take_ofW HT_.out HW_.out (by kernel_rfl)) (fun _ _ _ h => h) (Or.inl ⟨by rfl, ?_⟩) hHeld ?_ ?_
          rotate_left
          ·rintro w' ⟨s0, s1, s2, s3, s4, s5, s6, s7, s8, s9, s10, s11, s12, s13⟩
           go_simp
           with_reducible rfl
          rotate_left
          ·simp only [Act.put, List.setIfInBounds_toArray, List.set_cons_zero, List.set_cons_succ, i64_w, i32_w]
           rfl
          refine take_ (i := 11) (N := some 46) (v := ?_) (a' := ?_) #[true, true, true, true, true, true, true, true, true, true, false, true, true, true, false, false, false, false, false, false, false, false, false, false, false, false, false, false, false, false, false, false, false, false, false, false, false, false, false, false, false, false, false, false, false] rfl rfl (take_ofW HT_.out HW_.out (by kernel_rfl)) (fun _ _ _ h => h) (Or.inl ⟨by rfl, ?_⟩) hHeld ?_ ?_
          rotate_left
          ·rintro w' ⟨s0, s1, s2, s3, s4, s5, s6, s7, s8, s9, s10, s11, s12, s13⟩
           go_simp
           with_reducible rfl
          rotate_left
          ·simp only [Act.put, List.setIfInBounds_toArray, List.set_cons_zero, List.set_cons_succ, i64_w, i32_w]
           rfl
          refine one_ (i := 10) (N := some 45) #[true, true, true, true, true, true, true, true, true, true, true, true, true, true, false, false, false, false, false, false, false, false, false, false, false, false, false, false, false, false, false, false, false, false, false, false, false, false, false, false, false, false, false, false, false] rfl rfl (one_of HT_.out (by kernel_rfl)) (by decide) (fun K hK => ?_)
          refine goes_ Try.func28 (by kernel_rfl) rfl #[.agg #[.int .i64 t493, .int .i64 t494, .int .i64 t495, .slice Ao35 t496.length co35, .bool t499, .string t500, .slice Ao36 t501.length co36], .string a2, .int .i64 a3] (by rfl) rfl rfl (by (try simp only [List.map_toArray, List.map_cons, List.map_nil]); first | done | rfl | (simp only [List.length_drop, List.length_take]; rfl)) ?_
          with_reducible refine (lead_Propose.calls t493 t494 t495 _ _ t496 t499 t500 _ _ t501 a2 a3 t528 t529 t530 t531 t534 t535 t536 _ ?side1 ?side2 ?side3 ?side4 A41.out).mono ?_
          (case side1 => repeat (first | exact (Kd.R_reads' HO498.out).2.2 | (with_reducible refine Kd.C_alloc ?_ _) | (with_reducible refine Kd.C_drewN ?_ _) | (with_reducible refine Kd.C_drew ?_)))
          (case side2 => exact (Kd.R_reads' HO498.out).2.1)
          (case side3 => repeat (first | exact (Kd.R_reads' HO503.out).2.2 | (with_reducible refine Kd.C_alloc ?_ _) | (with_reducible refine Kd.C_drewN ?_ _) | (with_reducible refine Kd.C_drew ?_)))
          (case side4 => exact (Kd.R_reads' HO503.out).2.1)
          rintro e w64 ⟨v532, v537, rfl, ho0, ho1, hb⟩
          refine ⟨_, rfl, ?_⟩
          have n0_ := Aside0.mk (Kd.R_elder' (Kd.R_up HO498.out) (Kd.R_base ho0) hb)
          have n1_ := Aside0.mk (Kd.R_elder' (Kd.R_up HO503.out) (Kd.R_base ho1) hb)
          have n2_ := Aside0.mk (Kd.R_elder' (Kd.R_up HO510.out) (Kd.R_base ho0) hb)
          have n3_ := Aside0.mk (Kd.R_elder' (Kd.R_up HO515.out) (Kd.R_base ho1) hb)
          have n4_ := Aside0.mk (Kd.R_elder' (Kd.R_up HO521.out) (Kd.R_base ho0) hb)
          have n5_ := Aside0.mk (Kd.R_elder' (Kd.R_up HO526.out) (Kd.R_base ho1) hb)
          have n6_ := Aside0.mk (Kd.R_lower (Kd.R_new' (Kd.R_new' (Kd.R_new' ho0 (Kd.R_lt (Kd.R_up HO498.out))) (Kd.R_lt (Kd.R_up HO510.out))) (Kd.R_lt (Kd.R_up HO521.out))) (below_size (bel HB.out)))
          have n7_ := Aside0.mk (Kd.R_lower (Kd.R_new' (Kd.R_new' (Kd.R_new' ho1 (Kd.R_lt (Kd.R_up HO503.out))) (Kd.R_lt (Kd.R_up HO515.out))) (Kd.R_lt (Kd.R_up HO526.out))) (below_size (bel HB.out)))
          have n8_ := Aside0.mk (blk_below (g := gb475) (o := .cells #[.int .i64 a0_0, .int .i64 a0_1, .int .i64 a0_2, .slice A0_3 l0_3.length c0_3, .bool a0_4, .string a0_5, .slice A0_6 l0_6.length c0_6] 37 (0, 0)) (bup BK475.out) hb)
          have n9_ := Aside0.mk (blk_below (g := gb476) (o := .cells #[.int .i64 a1_0, .int .i64 a1_1, .int .i64 a1_2, .slice A1_3 l1_3.length c1_3, .bool a1_4, .string a1_5, .slice A1_6 l1_6.length c1_6] 37 (0, 0)) (bup BK476.out) hb)
          have n10_ := Aside0.mk (blk_below (g := gb504) (o := .cells #[.int .i64 t493, .int .i64 t494, .int .i64 t495, .slice Ao35 t496.length co35, .bool t499, .string t500, .slice Ao36 t501.length co36] 37 (0, 0)) (bup BK504.out) hb)
          have n11_ := Aside0.mk (below_step (bel HB.out) hb)
          clear HO498
          clear HO503
          clear HO510
          clear HO515
          clear HO521
          clear HO526
          clear BK475
          clear BK476
          clear BK504
          clear HB
          have HO498 := n0_
          have HO503 := n1_
          have HO510 := n2_
          have HO515 := n3_
          have HO521 := n4_
          have HO526 := n5_
          have HO533 := n6_
          have HO538 := n7_
          have BK475 := n8_
          have BK476 := n9_
          have BK504 := n10_
          have HB := n11_
          clear n0_ n1_ n2_ n3_ n4_ n5_ n6_ n7_ n8_ n9_ n10_ n11_
          (try clear hb)
          (try clear hb2)
          (try clear hk)
          (try clear hi)
          (try clear ho0)
          (try clear ho1)
          refine hK.out _ _ ⟨(blk_cell BK504.out 0).trans rfl, (blk_cell BK504.out 1).trans rfl, (blk_cell BK504.out 2).trans rfl, (blk_cell BK504.out 3).trans rfl, (blk_cell BK504.out 4).trans rfl, (blk_cell BK504.out 5).trans rfl, (blk_cell BK504.out 6).trans rfl, (blk_cell BK475.out 0).trans rfl, (blk_cell BK475.out 1).trans rfl, (blk_cell BK475.out 2).trans rfl, (blk_cell BK475.out 3).trans rfl, (blk_cell BK475.out 4).trans rfl, (blk_cell BK475.out 5).trans rfl, (blk_cell BK475.out 6).trans rfl⟩ (fun hHeld => ?_)
          clear hK K
          refine norm_ (a' := ?_) ?_ ?_
          rotate_left
          ·show Act.put _ (some 45) _ = _
           simp only [Act.put, List.setIfInBounds_toArray, List.set_cons_zero, List.set_cons_succ, i64_w, i32_w]
           rfl
          refine one_ (i := 14) (N := some 49) #[true, true, true, true, true, true, true, true, true, true, true, true, true, true, true, false, false, false, false, false, false, false, false, false, false, false, false, false, false, false, false, false, false, false, false, false, false, false, false, false, false, false, false, false, false] rfl rfl (one_of HT_.out (by kernel_rfl)) (by decide) (fun K hK => ?_)
          refine goes_ Try.func29 (by kernel_rfl) rfl #[.agg #[.int .i64 a0_0, .int .i64 a0_1, .int .i64 a0_2, .slice A0_3 l0_3.length c0_3, .bool a0_4, .string a0_5, .slice A0_6 l0_6.length c0_6], .string a2, .int .i64 a3] (by rfl) rfl rfl (by (try simp only [List.map_toArray, List.map_cons, List.map_nil]); first | done | rfl | (simp only [List.length_drop, List.length_take]; rfl)) ?_
          with_reducible refine (reefref16_Propose.calls a0_0 a0_1 a0_2 _ _ l0_3 a0_4 a0_5 _ _ l0_6 a2 a3 t539 t540 t541 t542 t545 t546 t547 _ ?side1 ?side2 ?side3 ?side4 A42.out).mono ?_
          (case side1 => exact Kd.C_up (Kd.C_below HR0_3.out HB.out))
          (case side2 => exact HC0_3.out)
          (case side3 => exact Kd.C_up (Kd.C_below HR0_6.out HB.out))
          (case side4 => exact HC0_6.out)
          rintro e w65 ⟨v543, v548, rfl, ho0, ho1, hb⟩
          refine ⟨_, rfl, ?_⟩
          have n0_ := Aside0.mk (Kd.R_elder' (Kd.R_up HO498.out) (Kd.R_base ho0) hb)
          have n1_ := Aside0.mk (Kd.R_elder' (Kd.R_up HO503.out) (Kd.R_base ho1) hb)
          have n2_ := Aside0.mk (Kd.R_elder' (Kd.R_up HO510.out) (Kd.R_base ho0) hb)
          have n3_ := Aside0.mk (Kd.R_elder' (Kd.R_up HO515.out) (Kd.R_base ho1) hb)
          have n4_ := Aside0.mk (Kd.R_elder' (Kd.R_up HO521.out) (Kd.R_base ho0) hb)
          have n5_ := Aside0.mk (Kd.R_elder' (Kd.R_up HO526.out) (Kd.R_base ho1) hb)
          have n6_ := Aside0.mk (Kd.R_elder' (Kd.R_up HO533.out) (Kd.R_base ho0) hb)
          have n7_ := Aside0.mk (Kd.R_elder' (Kd.R_up HO538.out) (Kd.R_base ho1) hb)
          have n8_ := Aside0.mk (Kd.R_lower (Kd.R_new' (Kd.R_new' (Kd.R_new' (Kd.R_new' ho0 (Kd.R_lt (Kd.R_up HO498.out))) (Kd.R_lt (Kd.R_up HO510.out))) (Kd.R_lt (Kd.R_up HO521.out))) (Kd.R_lt (Kd.R_up HO533.out))) (below_size (bel HB.out)))
          have n9_ := Aside0.mk (Kd.R_lower (Kd.R_new' (Kd.R_new' (Kd.R_new' (Kd.R_new' ho1 (Kd.R_lt (Kd.R_up HO503.out))) (Kd.R_lt (Kd.R_up HO515.out))) (Kd.R_lt (Kd.R_up HO526.out))) (Kd.R_lt (Kd.R_up HO538.out))) (below_size (bel HB.out)))
          have n10_ := Aside0.mk (blk_below (g := gb475) (o := .cells #[.int .i64 a0_0, .int .i64 a0_1, .int .i64 a0_2, .slice A0_3 l0_3.length c0_3, .bool a0_4, .string a0_5, .slice A0_6 l0_6.length c0_6] 37 (0, 0)) (bup BK475.out) hb)
          have n11_ := Aside0.mk (blk_below (g := gb476) (o := .cells #[.int .i64 a1_0, .int .i64 a1_1, .int .i64 a1_2, .slice A1_3 l1_3.length c1_3, .bool a1_4, .string a1_5, .slice A1_6 l1_6.length c1_6] 37 (0, 0)) (bup BK476.out) hb)
          have n12_ := Aside0.mk (blk_below (g := gb504) (o := .cells #[.int .i64 t493, .int .i64 t494, .int .i64 t495, .slice Ao35 t496.length co35, .bool t499, .string t500, .slice Ao36 t501.length co36] 37 (0, 0)) (bup BK504.out) hb)
          have n13_ := Aside0.mk (below_step (bel HB.out) hb)
          clear HO498
          clear HO503
          clear HO510
          clear HO515
          clear HO521
          clear HO526
          clear HO533
          clear HO538
          clear BK475
          clear BK476
          clear BK504
          clear HB
          have HO498 := n0_
          have HO503 := n1_
          have HO510 := n2_
          have HO515 := n3_
          have HO521 := n4_
          have HO526 := n5_
          have HO533 := n6_
          have HO538 := n7_
          have HO544 := n8_
          have HO549 := n9_
          have BK475 := n10_
          have BK476 := n11_
          have BK504 := n12_
          have HB := n13_
          clear n0_ n1_ n2_ n3_ n4_ n5_ n6_ n7_ n8_ n9_ n10_ n11_ n12_ n13_
          (try clear hb)
          (try clear hb2)
          (try clear hk)
          (try clear hi)
          (try clear ho0)
          (try clear ho1)
          obtain ⟨Ao66, co66, eo66⟩ := Kd.R_slice HO533.out
          (first | subst eo66 | (injection eo66 with f1_ f2_ f3_; have f4_ := f1_.symm; have f5_ := f3_.symm; clear f1_ f2_ f3_; subst f4_; subst f5_))
          obtain ⟨Ao67, co67, eo67⟩ := Kd.R_slice HO538.out
          (first | subst eo67 | (injection eo67 with f1_ f2_ f3_; have f4_ := f1_.symm; have f5_ := f3_.symm; clear f1_ f2_ f3_; subst f4_; subst f5_))
          obtain ⟨Ao68, co68, eo68⟩ := Kd.R_slice HO544.out
          (first | subst eo68 | (injection eo68 with f1_ f2_ f3_; have f4_ := f1_.symm; have f5_ := f3_.symm; clear f1_ f2_ f3_; subst f4_; subst f5_))
          obtain ⟨Ao69, co69, eo69⟩ := Kd.R_slice HO549.out
          (first | subst eo69 | (injection eo69 with f1_ f2_ f3_; have f4_ := f1_.symm; have f5_ := f3_.symm; clear f1_ f2_ f3_; subst f4_; subst f5_))
          refine hK.out _ _ ⟨(blk_cell BK504.out 0).trans rfl, (blk_cell BK504.out 1).trans rfl, (blk_cell BK504.out 2).trans rfl, (blk_cell BK504.out 3).trans rfl, (blk_cell BK504.out 4).trans rfl, (blk_cell BK504.out 5).trans rfl, (blk_cell BK504.out 6).trans rfl, (blk_cell BK475.out 0).trans rfl, (blk_cell BK475.out 1).trans rfl, (blk_cell BK475.out 2).trans rfl, (blk_cell BK475.out 3).trans rfl, (blk_cell BK475.out 4).trans rfl, (blk_cell BK475.out 5).trans rfl, (blk_cell BK475.out 6).trans rfl⟩ (fun hHeld => ?_)
          clear hK K
          refine norm_ (a' := ?_) ?_ ?_
          rotate_left
          ·show Act.put _ (some 49) _ = _
           simp only [Act.put, List.setIfInBounds_toArray, List.set_cons_zero, List.set_cons_succ, i64_w, i32_w]
           rfl
          refine one_ (i := 15) (N := some 50) #[true, true, true, true, true, true, true, true, true, true, true, true, true, true, true, true, false, false, false, false, false, false, false, false, false, false, false, false, false, false, false, false, false, false, false, false, false, false, false, false, false, false, false, false, false] rfl rfl (one_of HT_.out (by kernel_rfl)) (by decide) (fun K hK => ?_)
          refine goes_ Try.func19 (by kernel_rfl) rfl #[.agg #[.int .i64 t528, .int .i64 t529, .int .i64 t530, .slice Ao66 t531.length co66, .bool t534, .string t535, .slice Ao67 t536.length co67], .agg #[.int .i64 t539, .int .i64 t540, .int .i64 t541, .slice Ao68 t542.length co68, .bool t545, .string t546, .slice Ao69 t547.length co69]] (by rfl) rfl rfl (by (try simp only [List.map_toArray, List.map_cons, List.map_nil]); first | done | rfl | (simp only [List.length_drop, List.length_take]; rfl)) ?_
          with_reducible refine (reefref16_Same.calls kj5 t528 t529 t530 _ _ t531 t534 t535 _ _ t536 t539 t540 t541 _ _ t542 t545 t546 _ _ t547 true _ ?side1 ?side2 ?side3 ?side4 ?side5 ?side6 ?side7 ?side8 A43.out).mono ?_
          (case side1 => repeat (first | exact (Kd.R_reads' HO533.out).2.2 | (with_reducible refine Kd.C_alloc ?_ _) | (with_reducible refine Kd.C_drewN ?_ _) | (with_reducible refine Kd.C_drew ?_)))
          (case side2 => exact (Kd.R_reads' HO533.out).2.1)
          (case side3 => repeat (first | exact (Kd.R_reads' HO538.out).2.2 | (with_reducible refine Kd.C_alloc ?_ _) | (with_reducible refine Kd.C_drewN ?_ _) | (with_reducible refine Kd.C_drew ?_)))
          (case side4 => exact (Kd.R_reads' HO538.out).2.1)
          (case side5 => repeat (first | exact (Kd.R_reads' HO544.out).2.2 | (with_reducible refine Kd.C_alloc ?_ _) | (with_reducible refine Kd.C_drewN ?_ _) | (with_reducible refine Kd.C_drew ?_)))
          (case side6 => exact (Kd.R_reads' HO544.out).2.1)
          (case side7 => repeat (first | exact (Kd.R_reads' HO549.out).2.2 | (with_reducible refine Kd.C_alloc ?_ _) | (with_reducible refine Kd.C_drewN ?_ _) | (with_reducible refine Kd.C_drew ?_)))
          (case side8 => exact (Kd.R_reads' HO549.out).2.1)
          rintro e w70 ⟨rfl, hb⟩
          refine ⟨_, rfl, ?_⟩
          have n0_ := Aside0.mk (Kd.R_below (Kd.R_up HO498.out) hb)
          have n1_ := Aside0.mk (Kd.R_below (Kd.R_up HO503.out) hb)
          have n2_ := Aside0.mk (Kd.R_below (Kd.R_up HO510.out) hb)
          have n3_ := Aside0.mk (Kd.R_below (Kd.R_up HO515.out) hb)
          have n4_ := Aside0.mk (Kd.R_below (Kd.R_up HO521.out) hb)
          have n5_ := Aside0.mk (Kd.R_below (Kd.R_up HO526.out) hb)
          have n6_ := Aside0.mk (Kd.R_below (Kd.R_up HO533.out) hb)
          have n7_ := Aside0.mk (Kd.R_below (Kd.R_up HO538.out) hb)
          have n8_ := Aside0.mk (Kd.R_below (Kd.R_up HO544.out) hb)
          have n9_ := Aside0.mk (Kd.R_below (Kd.R_up HO549.out) hb)
          have n10_ := Aside0.mk (blk_below (g := gb475) (o := .cells #[.int .i64 a0_0, .int .i64 a0_1, .int .i64 a0_2, .slice A0_3 l0_3.length c0_3, .bool a0_4, .string a0_5, .slice A0_6 l0_6.length c0_6] 37 (0, 0)) (bup BK475.out) hb)
          have n11_ := Aside0.mk (blk_below (g := gb476) (o := .cells #[.int .i64 a1_0, .int .i64 a1_1, .int .i64 a1_2, .slice A1_3 l1_3.length c1_3, .bool a1_4, .string a1_5, .slice A1_6 l1_6.length c1_6] 37 (0, 0)) (bup BK476.out) hb)
          have n12_ := Aside0.mk (blk_below (g := gb504) (o := .cells #[.int .i64 t493, .int .i64 t494, .int .i64 t495, .slice Ao35 t496.length co35, .bool t499, .string t500, .slice Ao36 t501.length co36] 37 (0, 0)) (bup BK504.out) hb)
          have n13_ := Aside0.mk (below_step (bel HB.out) hb)
          clear HO498
          clear HO503
          clear HO510
          clear HO515
          clear HO521
          clear HO526
          clear HO533
          clear HO538
          clear HO544
          clear HO549
          clear BK475
          clear BK476
          clear BK504
          clear HB
          have HO498 := n0_
          have HO503 := n1_
          have HO510 := n2_
          have HO515 := n3_
          have HO521 := n4_
          have HO526 := n5_
          have HO533 := n6_
          have HO538 := n7_
          have HO544 := n8_
          have HO549 := n9_
          have BK475 := n10_
          have BK476 := n11_
          have BK504 := n12_
          have HB := n13_
          clear n0_ n1_ n2_ n3_ n4_ n5_ n6_ n7_ n8_ n9_ n10_ n11_ n12_ n13_
          (try clear hb)
          (try clear hb2)
          (try clear hk)
          (try clear hi)
          refine hK.out _ _ ⟨(blk_cell BK504.out 0).trans rfl, (blk_cell BK504.out 1).trans rfl, (blk_cell BK504.out 2).trans rfl, (blk_cell BK504.out 3).trans rfl, (blk_cell BK504.out 4).trans rfl, (blk_cell BK504.out 5).trans rfl, (blk_cell BK504.out 6).trans rfl, (blk_cell BK475.out 0).trans rfl, (blk_cell BK475.out 1).trans rfl, (blk_cell BK475.out 2).trans rfl, (blk_cell BK475.out 3).trans rfl, (blk_cell BK475.out 4).trans rfl, (blk_cell BK475.out 5).trans rfl, (blk_cell BK475.out 6).trans rfl⟩ (fun hHeld => ?_)
          clear hK K
          refine norm_ (a' := ?_) ?_ ?_
          rotate_left
          ·show Act.put _ (some 50) _ = _
           simp only [Act.put, List.setIfInBounds_toArray, List.set_cons_zero, List.set_cons_succ, i64_w, i32_w]
           rfl
          refine pure_ (i := 16) (N := some 51) (v := ?_) (a' := ?_) #[true, true, true, true, true, true, true, true, true, true, true, true, true, true, true, true, true, false, false, false, false, false, false, false, false, false, false, false, false, false, false, false, false, false, false, false, false, false, false, false, false, false, false, false, false] rfl rfl (any_of HT_.out (by kernel_rfl)) (fun _ _ _ h => h) (Or.inl ⟨by rfl, ?_⟩) ?_ ?_
          rotate_left
          ·intro w'
           go_simp
           with_reducible rfl
          rotate_left
          ·simp only [Act.put, List.setIfInBounds_toArray, List.set_cons_zero, List.set_cons_succ, i64_w, i32_w]
           rfl
          refine pure_ (i := 17) (N := some 52) (v := ?_) (a' := ?_) #[true, true, true, true, true, true, true, true, true, true, true, true, true, true, true, true, true, true, false, false, false, false, false, false, false, false, false, false, false, false, false, false, false, false, false, false, false, false, false, false, false, false, false, false, false] rfl rfl (any_of HT_.out (by kernel_rfl)) (fun _ _ _ h => h) (Or.inl ⟨by rfl, ?_⟩) ?_ ?_
          rotate_left
          ·intro w'
           go_simp
           with_reducible rfl
          rotate_left
          ·simp only [Act.put, List.setIfInBounds_toArray, List.set_cons_zero, List.set_cons_succ, i64_w, i32_w]
           rfl
          refine pure_ (i := 18) (N := some 53) (v := ?_) (a' := ?_) #[true, true, true, true, true, true, true, true, true, true, true, true, true, true, true, true, true, true, true, false, false, false, false, false, false, false, false, false, false, false, false, false, false, false, false, false, false, false, false, false, false, false, false, false, false] rfl rfl (any_of HT_.out (by kernel_rfl)) (fun _ _ _ h => h) (Or.inl ⟨by rfl, ?_⟩) ?_ ?_
          rotate_left
          ·intro w'
           go_simp
           with_reducible rfl
          rotate_left
          ·simp only [Act.put, List.setIfInBounds_toArray, List.set_cons_zero, List.set_cons_succ, i64_w, i32_w]
           rfl
          refine pure_ (i := 20) (N := some 55) (v := ?_) (a' := ?_) #[true, true, true, true, true, true, true, true, true, true, true, true, true, true, true, true, true, true, true, false, true, false, false, false, false, false, false, false, false, false, false, false, false, false, false, false, false, false, false, false, false, false, false, false, false] rfl rfl (any_of HT_.out (by kernel_rfl)) (fun _ _ _ h => h) (Or.inl ⟨by rfl, ?_⟩) ?_ ?_
          rotate_left
          ·intro w'
           go_simp
           with_reducible rfl
          rotate_left
          ·simp only [Act.put, List.setIfInBounds_toArray, List.set_cons_zero, List.set_cons_succ, i64_w, i32_w]
           rfl
          refine pure_ (i := 23) (N := some 58) (v := ?_) (a' := ?_) #[true, true, true, true, true, true, true, true, true, true, true, true, true, true, true, true, true, true, true, false, true, false, false, true, false, false, false, false, false, false, false, false, false, false, false, false, false, false, false, false, false, false, false, false, false] rfl rfl (any_of HT_.out (by kernel_rfl)) (fun _ _ _ h => h) (Or.inl ⟨by rfl, ?_⟩) ?_ ?_
          rotate_left
          ·intro w'
           go_simp
           with_reducible rfl
          rotate_left
          ·simp only [Act.put, List.setIfInBounds_toArray, List.set_cons_zero, List.set_cons_succ, i64_w, i32_w]
           rfl
          refine take_ (i := 19) (N := some 54) (v := ?_) (a' := ?_) #[true, true, true, true, true, true, true, true, true, true, true, true, true, true, true, true, true, true, true, true, true, false, false, true, false, false, false, false, false, false, false, false, false, false, false, false, false, false, false, false, false, false, false, false, false] rfl rfl (take_ofW HT_.out HW_.out (by kernel_rfl)) (fun _ _ _ h => h) (Or.inl ⟨by rfl, ?_⟩) hHeld ?_ ?_
          rotate_left
          ·rintro w' ⟨s0, s1, s2, s3, s4, s5, s6, s7, s8, s9, s10, s11, s12, s13⟩
           go_simp
           with_reducible rfl
          rotate_left
          ·simp only [Act.put, List.setIfInBounds_toArray, List.set_cons_zero, List.set_cons_succ, i64_w, i32_w]
           rfl
          refine take_ (i := 22) (N := some 57) (v := ?_) (a' := ?_) #[true, true, true, true, true, true, true, true, true, true, true, true, true, true, true, true, true, true, true, true, true, false, true, true, false, false, false, false, false, false, false, false, false, false, false, false, false, false, false, false, false, false, false, false, false] rfl rfl (take_ofW HT_.out HW_.out (by kernel_rfl)) (fun _ _ _ h => h) (Or.inl ⟨by rfl, ?_⟩) hHeld ?_ ?_
          rotate_left
          ·rintro w' ⟨s0, s1, s2, s3, s4, s5, s6, s7, s8, s9, s10, s11, s12, s13⟩
           go_simp
           with_reducible rfl
          rotate_left
          ·simp only [Act.put, List.setIfInBounds_toArray, List.set_cons_zero, List.set_cons_succ, i64_w, i32_w]
           rfl
          refine one_ (i := 21) (N := some 56) #[true, true, true, true, true, true, true, true, true, true, true, true, true, true, true, true, true, true, true, true, true, true, true, true, false, false, false, false, false, false, false, false, false, false, false, false, false, false, false, false, false, false, false, false, false] rfl rfl (one_of HT_.out (by kernel_rfl)) (by decide) (fun K hK => ?_)
          refine goes_ Try.func30 (by kernel_rfl) rfl #[.agg #[.int .i64 t493, .int .i64 t494, .int .i64 t495, .slice Ao35 t496.length co35, .bool t499, .string t500, .slice Ao36 t501.length co36], .int .i64 a3] (by rfl) rfl rfl (by (try simp only [List.map_toArray, List.map_cons, List.map_nil]); first | done | rfl | (simp only [List.length_drop, List.length_take]; rfl)) ?_
          with_reducible refine (lead_Ack.calls kj5 t493 t494 t495 _ _ t496 t499 t500 _ _ t501 a3 t551 t552 t553 t554 t557 t558 t559 _ ?side1 ?side2 ?side3 ?side4 A45.out).mono ?_
          (case side1 => repeat (first | exact (Kd.R_reads' HO498.out).2.2 | (with_reducible refine Kd.C_alloc ?_ _) | (with_reducible refine Kd.C_drewN ?_ _) | (with_reducible refine Kd.C_drew ?_)))
          (case side2 => exact (Kd.R_reads' HO498.out).2.1)
          (case side3 => repeat (first | exact (Kd.R_reads' HO503.out).2.2 | (with_reducible refine Kd.C_alloc ?_ _) | (with_reducible refine Kd.C_drewN ?_ _) | (with_reducible refine Kd.C_drew ?_)))
          (case side4 => exact (Kd.R_reads' HO503.out).2.1)
          rintro e w71 ⟨v555, v560, rfl, ho0, ho1, hb⟩
          refine ⟨_, rfl, ?_⟩
          have n0_ := Aside0.mk (Kd.R_elder' (Kd.R_up HO498.out) (Kd.R_base ho0) hb)
          have n1_ := Aside0.mk (Kd.R_elder' (Kd.R_up HO503.out) (Kd.R_base ho1) hb)
          have n2_ := Aside0.mk (Kd.R_elder' (Kd.R_up HO510.out) (Kd.R_base ho0) hb)
          have n3_ := Aside0.mk (Kd.R_elder' (Kd.R_up HO515.out) (Kd.R_base ho1) hb)
          have n4_ := Aside0.mk (Kd.R_elder' (Kd.R_up HO521.out) (Kd.R_base ho0) hb)
          have n5_ := Aside0.mk (Kd.R_elder' (Kd.R_up HO526.out) (Kd.R_base ho1) hb)
          have n6_ := Aside0.mk (Kd.R_elder' (Kd.R_up HO533.out) (Kd.R_base ho0) hb)
          have n7_ := Aside0.mk (Kd.R_elder' (Kd.R_up HO538.out) (Kd.R_base ho1) hb)
          have n8_ := Aside0.mk (Kd.R_elder' (Kd.R_up HO544.out) (Kd.R_base ho0) hb)
          have n9_ := Aside0.mk (Kd.R_elder' (Kd.R_up HO549.out) (Kd.R_base ho1) hb)
          have n10_ := Aside0.mk (Kd.R_lower (Kd.R_new' (Kd.R_new' (Kd.R_new' (Kd.R_new' (Kd.R_new' ho0 (Kd.R_lt (Kd.R_up HO498.out))) (Kd.R_lt (Kd.R_up HO510.out))) (Kd.R_lt (Kd.R_up HO521.out))) (Kd.R_lt (Kd.R_up HO533.out))) (Kd.R_lt (Kd.R_up HO544.out))) (below_size (bel HB.out)))
          have n11_ := Aside0.mk (Kd.R_lower (Kd.R_new' (Kd.R_new' (Kd.R_new' (Kd.R_new' (Kd.R_new' ho1 (Kd.R_lt (Kd.R_up HO503.out))) (Kd.R_lt (Kd.R_up HO515.out))) (Kd.R_lt (Kd.R_up HO526.out))) (Kd.R_lt (Kd.R_up HO538.out))) (Kd.R_lt (Kd.R_up HO549.out))) (below_size (bel HB.out)))
          have n12_ := Aside0.mk (blk_below (g := gb475) (o := .cells #[.int .i64 a0_0, .int .i64 a0_1, .int .i64 a0_2, .slice A0_3 l0_3.length c0_3, .bool a0_4, .string a0_5, .slice A0_6 l0_6.length c0_6] 37 (0, 0)) (bup BK475.out) hb)
          have n13_ := Aside0.mk (blk_below (g := gb476) (o := .cells #[.int .i64 a1_0, .int .i64 a1_1, .int .i64 a1_2, .slice A1_3 l1_3.length c1_3, .bool a1_4, .string a1_5, .slice A1_6 l1_6.length c1_6] 37 (0, 0)) (bup BK476.out) hb)
          have n14_ := Aside0.mk (blk_below (g := gb504) (o := .cells #[.int .i64 t493, .int .i64 t494, .int .i64 t495, .slice Ao35 t496.length co35, .bool t499, .string t500, .slice Ao36 t501.length co36] 37 (0, 0)) (bup BK504.out) hb)
          have n15_ := Aside0.mk (below_step (bel HB.out) hb)
          clear HO498
          clear HO503
          clear HO510
          clear HO515
          clear HO521
          clear HO526
          clear HO533
          clear HO538
          clear HO544
          clear HO549
          clear BK475
          clear BK476
          clear BK504
          clear HB
          have HO498 := n0_
          have HO503 := n1_
          have HO510 := n2_
          have HO515 := n3_
          have HO521 := n4_
          have HO526 := n5_
          have HO533 := n6_
          have HO538 := n7_
          have HO544 := n8_
          have HO549 := n9_
          have HO556 := n10_
          have HO561 := n11_
          have BK475 := n12_
          have BK476 := n13_
          have BK504 := n14_
          have HB := n15_
          clear n0_ n1_ n2_ n3_ n4_ n5_ n6_ n7_ n8_ n9_ n10_ n11_ n12_ n13_ n14_ n15_
          (try clear hb)
          (try clear hb2)
          (try clear hk)
          (try clear hi)
          (try clear ho0)
          (try clear ho1)
          refine hK.out _ _ ⟨(blk_cell BK504.out 0).trans rfl, (blk_cell BK504.out 1).trans rfl, (blk_cell BK504.out 2).trans rfl, (blk_cell BK504.out 3).trans rfl, (blk_cell BK504.out 4).trans rfl, (blk_cell BK504.out 5).trans rfl, (blk_cell BK504.out 6).trans rfl, (blk_cell BK475.out 0).trans rfl, (blk_cell BK475.out 1).trans rfl, (blk_cell BK475.out 2).trans rfl, (blk_cell BK475.out 3).trans rfl, (blk_cell BK475.out 4).trans rfl, (blk_cell BK475.out 5).trans rfl, (blk_cell BK475.out 6).trans rfl⟩ (fun hHeld => ?_)
          clear hK K
          refine norm_ (a' := ?_) ?_ ?_
          rotate_left
          ·show Act.put _ (some 56) _ = _
           simp only [Act.put, List.setIfInBounds_toArray, List.set_cons_zero, List.set_cons_succ, i64_w, i32_w]
           rfl
          refine one_ (i := 24) (N := some 59) #[true, true, true, true, true, true, true, true, true, true, true, true, true, true, true, true, true, true, true, true, true, true, true, true, true, false, false, false, false, false, false, false, false, false, false, false, false, false, false, false, false, false, false, false, false] rfl rfl (one_of HT_.out (by kernel_rfl)) (by decide) (fun K hK => ?_)
          refine goes_ Try.func31 (by kernel_rfl) rfl #[.agg #[.int .i64 a0_0, .int .i64 a0_1, .int .i64 a0_2, .slice A0_3 l0_3.length c0_3, .bool a0_4, .string a0_5, .slice A0_6 l0_6.length c0_6], .int .i64 a3] (by rfl) rfl rfl (by (try simp only [List.map_toArray, List.map_cons, List.map_nil]); first | done | rfl | (simp only [List.length_drop, List.length_take]; rfl)) ?_
          with_reducible refine (reefref16_Ack.calls kj5 a0_0 a0_1 a0_2 _ _ l0_3 a0_4 a0_5 _ _ l0_6 a3 t562 t563 t564 t565 t568 t569 t570 _ ?side1 ?side2 ?side3 ?side4 A46.out).mono ?_
          (case side1 => exact Kd.C_up (Kd.C_below HR0_3.out HB.out))
          (case side2 => exact HC0_3.out)
          (case side3 => exact Kd.C_up (Kd.C_below HR0_6.out HB.out))
          (case side4 => exact HC0_6.out)
          rintro e w72 ⟨v566, v571, rfl, ho0, ho1, hb⟩
          refine ⟨_, rfl, ?_⟩
          have n0_ := Aside0.mk (Kd.R_elder' (Kd.R_up HO498.out) (Kd.R_base ho0) hb)
          have n1_ := Aside0.mk (Kd.R_elder' (Kd.R_up HO503.out) (Kd.R_base ho1) hb)
          have n2_ := Aside0.mk (Kd.R_elder' (Kd.R_up HO510.out) (Kd.R_base ho0) hb)
          have n3_ := Aside0.mk (Kd.R_elder' (Kd.R_up HO515.out) (Kd.R_base ho1) hb)
          have n4_ := Aside0.mk (Kd.R_elder' (Kd.R_up HO521.out) (Kd.R_base ho0) hb)
          have n5_ := Aside0.mk (Kd.R_elder' (Kd.R_up HO526.out) (Kd.R_base ho1) hb)
          have n6_ := Aside0.mk (Kd.R_elder' (Kd.R_up HO533.out) (Kd.R_base ho0) hb)
          have n7_ := Aside0.mk (Kd.R_elder' (Kd.R_up HO538.out) (Kd.R_base ho1) hb)
          have n8_ := Aside0.mk (Kd.R_elder' (Kd.R_up HO544.out) (Kd.R_base ho0) hb)
          have n9_ := Aside0.mk (Kd.R_elder' (Kd.R_up HO549.out) (Kd.R_base ho1) hb)
          have n10_ := Aside0.mk (Kd.R_elder' (Kd.R_up HO556.out) (Kd.R_base ho0) hb)
          have n11_ := Aside0.mk (Kd.R_elder' (Kd.R_up HO561.out) (Kd.R_base ho1) hb)
          have n12_ := Aside0.mk (Kd.R_lower (Kd.R_new' (Kd.R_new' (Kd.R_new' (Kd.R_new' (Kd.R_new' (Kd.R_new' ho0 (Kd.R_lt (Kd.R_up HO498.out))) (Kd.R_lt (Kd.R_up HO510.out))) (Kd.R_lt (Kd.R_up HO521.out))) (Kd.R_lt (Kd.R_up HO533.out))) (Kd.R_lt (Kd.R_up HO544.out))) (Kd.R_lt (Kd.R_up HO556.out))) (below_size (bel HB.out)))
          have n13_ := Aside0.mk (Kd.R_lower (Kd.R_new' (Kd.R_new' (Kd.R_new' (Kd.R_new' (Kd.R_new' (Kd.R_new' ho1 (Kd.R_lt (Kd.R_up HO503.out))) (Kd.R_lt (Kd.R_up HO515.out))) (Kd.R_lt (Kd.R_up HO526.out))) (Kd.R_lt (Kd.R_up HO538.out))) (Kd.R_lt (Kd.R_up HO549.out))) (Kd.R_lt (Kd.R_up HO561.out))) (below_size (bel HB.out)))
          have n14_ := Aside0.mk (blk_below (g := gb475) (o := .cells #[.int .i64 a0_0, .int .i64 a0_1, .int .i64 a0_2, .slice A0_3 l0_3.length c0_3, .bool a0_4, .string a0_5, .slice A0_6 l0_6.length c0_6] 37 (0, 0)) (bup BK475.out) hb)
          have n15_ := Aside0.mk (blk_below (g := gb476) (o := .cells #[.int .i64 a1_0, .int .i64 a1_1, .int .i64 a1_2, .slice A1_3 l1_3.length c1_3, .bool a1_4, .string a1_5, .slice A1_6 l1_6.length c1_6] 37 (0, 0)) (bup BK476.out) hb)
          have n16_ := Aside0.mk (blk_below (g := gb504) (o := .cells #[.int .i64 t493, .int .i64 t494, .int .i64 t495, .slice Ao35 t496.length co35, .bool t499, .string t500, .slice Ao36 t501.length co36] 37 (0, 0)) (bup BK504.out) hb)
          have n17_ := Aside0.mk (below_step (bel HB.out) hb)
          clear HO498
          clear HO503
          clear HO510
          clear HO515
          clear HO521
          clear HO526
          clear HO533
          clear HO538
          clear HO544
          clear HO549
          clear HO556
          clear HO561
          clear BK475
          clear BK476
          clear BK504
          clear HB
          have HO498 := n0_
          have HO503 := n1_
          have HO510 := n2_
          have HO515 := n3_
          have HO521 := n4_
          have HO526 := n5_
          have HO533 := n6_
          have HO538 := n7_
          have HO544 := n8_
          have HO549 := n9_
          have HO556 := n10_
          have HO561 := n11_
          have HO567 := n12_
          have HO572 := n13_
          have BK475 := n14_
          have BK476 := n15_
          have BK504 := n16_
          have HB := n17_
          clear n0_ n1_ n2_ n3_ n4_ n5_ n6_ n7_ n8_ n9_ n10_ n11_ n12_ n13_ n14_ n15_ n16_ n17_
          (try clear hb)
          (try clear hb2)
          (try clear hk)
          (try clear hi)
          (try clear ho0)
          (try clear ho1)
          obtain ⟨Ao73, co73, eo73⟩ := Kd.R_slice HO556.out
          (first | subst eo73 | (injection eo73 with f1_ f2_ f3_; have f4_ := f1_.symm; have f5_ := f3_.symm; clear f1_ f2_ f3_; subst f4_; subst f5_))
          obtain ⟨Ao74, co74, eo74⟩ := Kd.R_slice HO561.out
          (first | subst eo74 | (injection eo74 with f1_ f2_ f3_; have f4_ := f1_.symm; have f5_ := f3_.symm; clear f1_ f2_ f3_; subst f4_; subst f5_))
          obtain ⟨Ao75, co75, eo75⟩ := Kd.R_slice HO567.out
          (first | subst eo75 | (injection eo75 with f1_ f2_ f3_; have f4_ := f1_.symm; have f5_ := f3_.symm; clear f1_ f2_ f3_; subst f4_; subst f5_))
          obtain ⟨Ao76, co76, eo76⟩ := Kd.R_slice HO572.out
          (first | subst eo76 | (injection eo76 with f1_ f2_ f3_; have f4_ := f1_.symm; have f5_ := f3_.symm; clear f1_ f2_ f3_; subst f4_; subst f5_))
          refine hK.out _ _ ⟨(blk_cell BK504.out 0).trans rfl, (blk_cell BK504.out 1).trans rfl, (blk_cell BK504.out 2).trans rfl, (blk_cell BK504.out 3).trans rfl, (blk_cell BK504.out 4).trans rfl, (blk_cell BK504.out 5).trans rfl, (blk_cell BK504.out 6).trans rfl, (blk_cell BK475.out 0).trans rfl, (blk_cell BK475.out 1).trans rfl, (blk_cell BK475.out 2).trans rfl, (blk_cell BK475.out 3).trans rfl, (blk_cell BK475.out 4).trans rfl, (blk_cell BK475.out 5).trans rfl, (blk_cell BK475.out 6).trans rfl⟩ (fun hHeld => ?_)
          clear hK K
          refine norm_ (a' := ?_) ?_ ?_
          rotate_left
          ·show Act.put _ (some 59) _ = _
           simp only [Act.put, List.setIfInBounds_toArray, List.set_cons_zero, List.set_cons_succ, i64_w, i32_w]
           rfl
          refine one_ (i := 25) (N := some 60) #[true, true, true, true, true, true, true, true, true, true, true, true, true, true, true, true, true, true, true, true, true, true, true, true, true, true, false, false, false, false, false, false, false, false, false, false, false, false, false, false, false, false, false, false, false] rfl rfl (one_of HT_.out (by kernel_rfl)) (by decide) (fun K hK => ?_)
          refine goes_ Try.func19 (by kernel_rfl) rfl #[.agg #[.int .i64 t551, .int .i64 t552, .int .i64 t553, .slice Ao73 t554.length co73, .bool t557, .string t558, .slice Ao74 t559.length co74], .agg #[.int .i64 t562, .int .i64 t563, .int .i64 t564, .slice Ao75 t565.length co75, .bool t568, .string t569, .slice Ao76 t570.length co76]] (by rfl) rfl rfl (by (try simp only [List.map_toArray, List.map_cons, List.map_nil]); first | done | rfl | (simp only [List.length_drop, List.length_take]; rfl)) ?_
          with_reducible refine (reefref16_Same.calls kj5 t551 t552 t553 _ _ t554 t557 t558 _ _ t559 t562 t563 t564 _ _ t565 t568 t569 _ _ t570 true _ ?side1 ?side2 ?side3 ?side4 ?side5 ?side6 ?side7 ?side8 A47.out).mono ?_
          (case side1 => repeat (first | exact (Kd.R_reads' HO556.out).2.2 | (with_reducible refine Kd.C_alloc ?_ _) | (with_reducible refine Kd.C_drewN ?_ _) | (with_reducible refine Kd.C_drew ?_)))
          (case side2 => exact (Kd.R_reads' HO556.out).2.1)
          (case side3 => repeat (first | exact (Kd.R_reads' HO561.out).2.2 | (with_reducible refine Kd.C_alloc ?_ _) | (with_reducible refine Kd.C_drewN ?_ _) | (with_reducible refine Kd.C_drew ?_)))
          (case side4 => exact (Kd.R_reads' HO561.out).2.1)
          (case side5 => repeat (first | exact (Kd.R_reads' HO567.out).2.2 | (with_reducible refine Kd.C_alloc ?_ _) | (with_reducible refine Kd.C_drewN ?_ _) | (with_reducible refine Kd.C_drew ?_)))
          (case side6 => exact (Kd.R_reads' HO567.out).2.1)
          (case side7 => repeat (first | exact (Kd.R_reads' HO572.out).2.2 | (with_reducible refine Kd.C_alloc ?_ _) | (with_reducible refine Kd.C_drewN ?_ _) | (with_reducible refine Kd.C_drew ?_)))
          (case side8 => exact (Kd.R_reads' HO572.out).2.1)
          rintro e w77 ⟨rfl, hb⟩
          refine ⟨_, rfl, ?_⟩
          have n0_ := Aside0.mk (Kd.R_below (Kd.R_up HO498.out) hb)
          have n1_ := Aside0.mk (Kd.R_below (Kd.R_up HO503.out) hb)
          have n2_ := Aside0.mk (Kd.R_below (Kd.R_up HO510.out) hb)
          have n3_ := Aside0.mk (Kd.R_below (Kd.R_up HO515.out) hb)
          have n4_ := Aside0.mk (Kd.R_below (Kd.R_up HO521.out) hb)
          have n5_ := Aside0.mk (Kd.R_below (Kd.R_up HO526.out) hb)
          have n6_ := Aside0.mk (Kd.R_below (Kd.R_up HO533.out) hb)
          have n7_ := Aside0.mk (Kd.R_below (Kd.R_up HO538.out) hb)
          have n8_ := Aside0.mk (Kd.R_below (Kd.R_up HO544.out) hb)
          have n9_ := Aside0.mk (Kd.R_below (Kd.R_up HO549.out) hb)
          have n10_ := Aside0.mk (Kd.R_below (Kd.R_up HO556.out) hb)
          have n11_ := Aside0.mk (Kd.R_below (Kd.R_up HO561.out) hb)
          have n12_ := Aside0.mk (Kd.R_below (Kd.R_up HO567.out) hb)
          have n13_ := Aside0.mk (Kd.R_below (Kd.R_up HO572.out) hb)
          have n14_ := Aside0.mk (blk_below (g := gb475) (o := .cells #[.int .i64 a0_0, .int .i64 a0_1, .int .i64 a0_2, .slice A0_3 l0_3.length c0_3, .bool a0_4, .string a0_5, .slice A0_6 l0_6.length c0_6] 37 (0, 0)) (bup BK475.out) hb)
          have n15_ := Aside0.mk (blk_below (g := gb476) (o := .cells #[.int .i64 a1_0, .int .i64 a1_1, .int .i64 a1_2, .slice A1_3 l1_3.length c1_3, .bool a1_4, .string a1_5, .slice A1_6 l1_6.length c1_6] 37 (0, 0)) (bup BK476.out) hb)
          have n16_ := Aside0.mk (blk_below (g := gb504) (o := .cells #[.int .i64 t493, .int .i64 t494, .int .i64 t495, .slice Ao35 t496.length co35, .bool t499, .string t500, .slice Ao36 t501.length co36] 37 (0, 0)) (bup BK504.out) hb)
          have n17_ := Aside0.mk (below_step (bel HB.out) hb)
          clear HO498
          clear HO503
          clear HO510
          clear HO515
          clear HO521
          clear HO526
          clear HO533
          clear HO538
          clear HO544
          clear HO549
          clear HO556
          clear HO561
          clear HO567
          clear HO572
          clear BK475
          clear BK476
          clear BK504
          clear HB
          have HO498 := n0_
          have HO503 := n1_
          have HO510 := n2_
          have HO515 := n3_
          have HO521 := n4_
          have HO526 := n5_
          have HO533 := n6_
          have HO538 := n7_
          have HO544 := n8_
          have HO549 := n9_
          have HO556 := n10_
          have HO561 := n11_
          have HO567 := n12_
          have HO572 := n13_
          have BK475 := n14_
          have BK476 := n15_
          have BK504 := n16_
          have HB := n17_
          clear n0_ n1_ n2_ n3_ n4_ n5_ n6_ n7_ n8_ n9_ n10_ n11_ n12_ n13_ n14_ n15_ n16_ n17_
          (try clear hb)
          (try clear hb2)
          (try clear hk)
          (try clear hi)
          refine hK.out _ _ ⟨(blk_cell BK504.out 0).trans rfl, (blk_cell BK504.out 1).trans rfl, (blk_cell BK504.out 2).trans rfl, (blk_cell BK504.out 3).trans rfl, (blk_cell BK504.out 4).trans rfl, (blk_cell BK504.out 5).trans rfl, (blk_cell BK504.out 6).trans rfl, (blk_cell BK475.out 0).trans rfl, (blk_cell BK475.out 1).trans rfl, (blk_cell BK475.out 2).trans rfl, (blk_cell BK475.out 3).trans rfl, (blk_cell BK475.out 4).trans rfl, (blk_cell BK475.out 5).trans rfl, (blk_cell BK475.out 6).trans rfl⟩ (fun hHeld => ?_)
          clear hK K
          refine norm_ (a' := ?_) ?_ ?_
          rotate_left
          ·show Act.put _ (some 60) _ = _
           simp only [Act.put, List.setIfInBounds_toArray, List.set_cons_zero, List.set_cons_succ, i64_w, i32_w]
           rfl
          refine pure_ (i := 26) (N := some 61) (v := ?_) (a' := ?_) #[true, true, true, true, true, true, true, true, true, true, true, true, true, true, true, true, true, true, true, true, true, true, true, true, true, true, true, false, false, false, false, false, false, false, false, false, false, false, false, false, false, false, false, false, false] rfl rfl (any_of HT_.out (by kernel_rfl)) (fun _ _ _ h => h) (Or.inl ⟨by rfl, ?_⟩) ?_ ?_
          rotate_left
          ·intro w'
           go_simp
           with_reducible rfl
          rotate_left
          ·simp only [Act.put, List.setIfInBounds_toArray, List.set_cons_zero, List.set_cons_succ, i64_w, i32_w]
           rfl
          refine pure_ (i := 27) (N := some 62) (v := ?_) (a' := ?_) #[true, true, true, true, true, true, true, true, true, true, true, true, true, true, true, true, true, true, true, true, true, true, true, true, true, true, true, true, false, false, false, false, false, false, false, false, false, false, false, false, false, false, false, false, false] rfl rfl (any_of HT_.out (by kernel_rfl)) (fun _ _ _ h => h) (Or.inl ⟨by rfl, ?_⟩) ?_ ?_
          rotate_left
          ·intro w'
           go_simp
           with_reducible rfl
          rotate_left
          ·simp only [Act.put, List.setIfInBounds_toArray, List.set_cons_zero, List.set_cons_succ, i64_w, i32_w]
           rfl
          refine pure_ (i := 28) (N := some 63) (v := ?_) (a' := ?_) #[true, true, true, true, true, true, true, true, true, true, true, true, true, true, true, true, true, true, true, true, true, true, true, true, true, true, true, true, true, false, false, false, false, false, false, false, false, false, false, false, false, false, false, false, false] rfl rfl (any_of HT_.out (by kernel_rfl)) (fun _ _ _ h => h) (Or.inl ⟨by rfl, ?_⟩) ?_ ?_
          rotate_left
          ·intro w'
           go_simp
           with_reducible rfl
          rotate_left
          ·simp only [Act.put, List.setIfInBounds_toArray, List.set_cons_zero, List.set_cons_succ, i64_w, i32_w]
           rfl
          refine take_ (i := 29) (N := some 64) (v := ?_) (a' := ?_) #[true, true, true, true, true, true, true, true, true, true, true, true, true, true, true, true, true, true, true, true, true, true, true, true, true, true, true, true, true, true, false, false, false, false, false, false, false, false, false, false, false, false, false, false, false] rfl rfl (take_ofW HT_.out HW_.out (by kernel_rfl)) (fun _ _ _ h => h) (Or.inl ⟨by rfl, ?_⟩) hHeld ?_ ?_
          rotate_left
          ·rintro w' ⟨s0, s1, s2, s3, s4, s5, s6, s7, s8, s9, s10, s11, s12, s13⟩
           go_simp
           with_reducible rfl
          rotate_left
          ·simp only [Act.put, List.setIfInBounds_toArray, List.set_cons_zero, List.set_cons_succ, i64_w, i32_w]
           rfl
          refine take_ (i := 31) (N := some 66) (v := ?_) (a' := ?_) #[true, true, true, true, true, true, true, true, true, true, true, true, true, true, true, true, true, true, true, true, true, true, true, true, true, true, true, true, true, true, false, true, false, false, false, false, false, false, false, false, false, false, false, false, false] rfl rfl (take_ofW HT_.out HW_.out (by kernel_rfl)) (fun _ _ _ h => h) (Or.inl ⟨by rfl, ?_⟩) hHeld ?_ ?_
          rotate_left
          ·rintro w' ⟨s0, s1, s2, s3, s4, s5, s6, s7, s8, s9, s10, s11, s12, s13⟩
           go_simp
           with_reducible rfl
          rotate_left
          ·simp only [Act.put, List.setIfInBounds_toArray, List.set_cons_zero, List.set_cons_succ, i64_w, i32_w]
           rfl
          refine one_ (i := 30) (N := some 65) #[true, true, true, true, true, true, true, true, true, true, true, true, true, true, true, true, true, true, true, true, true, true, true, true, true, true, true, true, true, true, true, true, false, false, false, false, false, false, false, false, false, false, false, false, false] rfl rfl (one_of HT_.out (by kernel_rfl)) (by decide) (fun K hK => ?_)
          refine goes_ Try.func32 (by kernel_rfl) rfl #[.agg #[.int .i64 t493, .int .i64 t494, .int .i64 t495, .slice Ao35 t496.length co35, .bool t499, .string t500, .slice Ao36 t501.length co36]] (by rfl) rfl rfl (by (try simp only [List.map_toArray, List.map_cons, List.map_nil]); first | done | rfl | (simp only [List.length_drop, List.length_take]; rfl)) ?_
          with_reducible refine (lead_Done.calls t493 t494 t495 _ _ t496 t499 t500 _ _ t501 t574 t575 t576 t577 t580 t581 t582 _ ?side1 ?side2 ?side3 ?side4 A49.out).mono ?_
          (case side1 => repeat (first | exact (Kd.R_reads' HO498.out).2.2 | (with_reducible refine Kd.C_alloc ?_ _) | (with_reducible refine Kd.C_drewN ?_ _) | (with_reducible refine Kd.C_drew ?_)))
          (case side2 => exact (Kd.R_reads' HO498.out).2.1)
          (case side3 => repeat (first | exact (Kd.R_reads' HO503.out).2.2 | (with_reducible refine Kd.C_alloc ?_ _) | (with_reducible refine Kd.C_drewN ?_ _) | (with_reducible refine Kd.C_drew ?_)))
          (case side4 => exact (Kd.R_reads' HO503.out).2.1)
          rintro e w78 ⟨v578, v583, rfl, ho0, ho1, hb⟩
          refine ⟨_, rfl, ?_⟩
          have n0_ := Aside0.mk (Kd.R_elder' (Kd.R_up HO498.out) (Kd.R_base ho0) hb)
          have n1_ := Aside0.mk (Kd.R_elder' (Kd.R_up HO503.out) (Kd.R_base ho1) hb)
          have n2_ := Aside0.mk (Kd.R_elder' (Kd.R_up HO510.out) (Kd.R_base ho0) hb)
          have n3_ := Aside0.mk (Kd.R_elder' (Kd.R_up HO515.out) (Kd.R_base ho1) hb)
          have n4_ := Aside0.mk (Kd.R_elder' (Kd.R_up HO521.out) (Kd.R_base ho0) hb)
          have n5_ := Aside0.mk (Kd.R_elder' (Kd.R_up HO526.out) (Kd.R_base ho1) hb)
          have n6_ := Aside0.mk (Kd.R_elder' (Kd.R_up HO533.out) (Kd.R_base ho0) hb)
          have n7_ := Aside0.mk (Kd.R_elder' (Kd.R_up HO538.out) (Kd.R_base ho1) hb)
          have n8_ := Aside0.mk (Kd.R_elder' (Kd.R_up HO544.out) (Kd.R_base ho0) hb)
          have n9_ := Aside0.mk (Kd.R_elder' (Kd.R_up HO549.out) (Kd.R_base ho1) hb)
          have n10_ := Aside0.mk (Kd.R_elder' (Kd.R_up HO556.out) (Kd.R_base ho0) hb)
          have n11_ := Aside0.mk (Kd.R_elder' (Kd.R_up HO561.out) (Kd.R_base ho1) hb)
          have n12_ := Aside0.mk (Kd.R_elder' (Kd.R_up HO567.out) (Kd.R_base ho0) hb)
          have n13_ := Aside0.mk (Kd.R_elder' (Kd.R_up HO572.out) (Kd.R_base ho1) hb)
          have n14_ := Aside0.mk (Kd.R_lower (Kd.R_new' (Kd.R_new' (Kd.R_new' (Kd.R_new' (Kd.R_new' (Kd.R_new' (Kd.R_new' ho0 (Kd.R_lt (Kd.R_up HO498.out))) (Kd.R_lt (Kd.R_up HO510.out))) (Kd.R_lt (Kd.R_up HO521.out))) (Kd.R_lt (Kd.R_up HO533.out))) (Kd.R_lt (Kd.R_up HO544.out))) (Kd.R_lt (Kd.R_up HO556.out))) (Kd.R_lt (Kd.R_up HO567.out))) (below_size (bel HB.out)))
          have n15_ := Aside0.mk (Kd.R_lower (Kd.R_new' (Kd.R_new' (Kd.R_new' (Kd.R_new' (Kd.R_new' (Kd.R_new' (Kd.R_new' ho1 (Kd.R_lt (Kd.R_up HO503.out))) (Kd.R_lt (Kd.R_up HO515.out))) (Kd.R_lt (Kd.R_up HO526.out))) (Kd.R_lt (Kd.R_up HO538.out))) (Kd.R_lt (Kd.R_up HO549.out))) (Kd.R_lt (Kd.R_up HO561.out))) (Kd.R_lt (Kd.R_up HO572.out))) (below_size (bel HB.out)))
          have n16_ := Aside0.mk (blk_below (g := gb475) (o := .cells #[.int .i64 a0_0, .int .i64 a0_1, .int .i64 a0_2, .slice A0_3 l0_3.length c0_3, .bool a0_4, .string a0_5, .slice A0_6 l0_6.length c0_6] 37 (0, 0)) (bup BK475.out) hb)
          have n17_ := Aside0.mk (blk_below (g := gb476) (o := .cells #[.int .i64 a1_0, .int .i64 a1_1, .int .i64 a1_2, .slice A1_3 l1_3.length c1_3, .bool a1_4, .string a1_5, .slice A1_6 l1_6.length c1_6] 37 (0, 0)) (bup BK476.out) hb)
          have n18_ := Aside0.mk (blk_below (g := gb504) (o := .cells #[.int .i64 t493, .int .i64 t494, .int .i64 t495, .slice Ao35 t496.length co35, .bool t499, .string t500, .slice Ao36 t501.length co36] 37 (0, 0)) (bup BK504.out) hb)
          have n19_ := Aside0.mk (below_step (bel HB.out) hb)
          clear HO498
          clear HO503
          clear HO510
          clear HO515
          clear HO521
          clear HO526
          clear HO533
          clear HO538
          clear HO544
          clear HO549
          clear HO556
          clear HO561
          clear HO567
          clear HO572
          clear BK475
          clear BK476
          clear BK504
          clear HB
          have HO498 := n0_
          have HO503 := n1_
          have HO510 := n2_
          have HO515 := n3_
          have HO521 := n4_
          have HO526 := n5_
          have HO533 := n6_
          have HO538 := n7_
          have HO544 := n8_
          have HO549 := n9_
          have HO556 := n10_
          have HO561 := n11_
          have HO567 := n12_
          have HO572 := n13_
          have HO579 := n14_
          have HO584 := n15_
          have BK475 := n16_
          have BK476 := n17_
          have BK504 := n18_
          have HB := n19_
          clear n0_ n1_ n2_ n3_ n4_ n5_ n6_ n7_ n8_ n9_ n10_ n11_ n12_ n13_ n14_ n15_ n16_ n17_ n18_ n19_
          (try clear hb)
          (try clear hb2)
          (try clear hk)
          (try clear hi)
          (try clear ho0)
          (try clear ho1)
          refine hK.out _ _ ⟨(blk_cell BK504.out 0).trans rfl, (blk_cell BK504.out 1).trans rfl, (blk_cell BK504.out 2).trans rfl, (blk_cell BK504.out 3).trans rfl, (blk_cell BK504.out 4).trans rfl, (blk_cell BK504.out 5).trans rfl, (blk_cell BK504.out 6).trans rfl, (blk_cell BK475.out 0).trans rfl, (blk_cell BK475.out 1).trans rfl, (blk_cell BK475.out 2).trans rfl, (blk_cell BK475.out 3).trans rfl, (blk_cell BK475.out 4).trans rfl, (blk_cell BK475.out 5).trans rfl, (blk_cell BK475.out 6).trans rfl⟩ (fun hHeld => ?_)
          clear hK K
          refine norm_ (a' := ?_) ?_ ?_
          rotate_left
          ·show Act.put _ (some 65) _ = _
           simp only [Act.put, List.setIfInBounds_toArray, List.set_cons_zero, List.set_cons_succ, i64_w, i32_w]
           rfl
          refine one_ (i := 32) (N := some 67) #[true, true, true, true, true, true, true, true, true, true, true, true, true, true, true, true, true, true, true, true, true, true, true, true, true, true, true, true, true, true, true, true, true, false, false, false, false, false, false, false, false, false, false, false, false] rfl rfl (one_of HT_.out (by kernel_rfl)) (by decide) (fun K hK => ?_)
          refine goes_ Try.func33 (by kernel_rfl) rfl #[.agg #[.int .i64 a0_0, .int .i64 a0_1, .int .i64 a0_2, .slice A0_3 l0_3.length c0_3, .bool a0_4, .string a0_5, .slice A0_6 l0_6.length c0_6]] (by rfl) rfl rfl (by (try simp only [List.map_toArray, List.map_cons, List.map_nil]); first | done | rfl | (simp only [List.length_drop, List.length_take]; rfl)) ?_
          with_reducible refine (reefref16_Done.calls a0_0 a0_1 a0_2 _ _ l0_3 a0_4 a0_5 _ _ l0_6 t585 t586 t587 t588 t591 t592 t593 _ ?side1 ?side2 ?side3 ?side4 A50.out).mono ?_
          (case side1 => exact Kd.C_up (Kd.C_below HR0_3.out HB.out))
          (case side2 => exact HC0_3.out)
          (case side3 => exact Kd.C_up (Kd.C_below HR0_6.out HB.out))
          (case side4 => exact HC0_6.out)
          rintro e w79 ⟨v589, v594, rfl, ho0, ho1, hb⟩
          refine ⟨_, rfl, ?_⟩
          have n0_ := Aside0.mk (Kd.R_elder' (Kd.R_up HO498.out) (Kd.R_base ho0) hb)
          have n1_ := Aside0.mk (Kd.R_elder' (Kd.R_up HO503.out) (Kd.R_base ho1) hb)
          have n2_ := Aside0.mk (Kd.R_elder' (Kd.R_up HO510.out) (Kd.R_base ho0) hb)
          have n3_ := Aside0.mk (Kd.R_elder' (Kd.R_up HO515.out) (Kd.R_base ho1) hb)
          have n4_ := Aside0.mk (Kd.R_elder' (Kd.R_up HO521.out) (Kd.R_base ho0) hb)
          have n5_ := Aside0.mk (Kd.R_elder' (Kd.R_up HO526.out) (Kd.R_base ho1) hb)
          have n6_ := Aside0.mk (Kd.R_elder' (Kd.R_up HO533.out) (Kd.R_base ho0) hb)
          have n7_ := Aside0.mk (Kd.R_elder' (Kd.R_up HO538.out) (Kd.R_base ho1) hb)
          have n8_ := Aside0.mk (Kd.R_elder' (Kd.R_up HO544.out) (Kd.R_base ho0) hb)
          have n9_ := Aside0.mk (Kd.R_elder' (Kd.R_up HO549.out) (Kd.R_base ho1) hb)
          have n10_ := Aside0.mk (Kd.R_elder' (Kd.R_up HO556.out) (Kd.R_base ho0) hb)
          have n11_ := Aside0.mk (Kd.R_elder' (Kd.R_up HO561.out) (Kd.R_base ho1) hb)
          have n12_ := Aside0.mk (Kd.R_elder' (Kd.R_up HO567.out) (Kd.R_base ho0) hb)
          have n13_ := Aside0.mk (Kd.R_elder' (Kd.R_up HO572.out) (Kd.R_base ho1) hb)
          have n14_ := Aside0.mk (Kd.R_elder' (Kd.R_up HO579.out) (Kd.R_base ho0) hb)
          have n15_ := Aside0.mk (Kd.R_elder' (Kd.R_up HO584.out) (Kd.R_base ho1) hb)
          have n16_ := Aside0.mk (Kd.R_lower (Kd.R_new' (Kd.R_new' (Kd.R_new' (Kd.R_new' (Kd.R_new' (Kd.R_new' (Kd.R_new' (Kd.R_new' ho0 (Kd.R_lt (Kd.R_up HO498.out))) (Kd.R_lt (Kd.R_up HO510.out))) (Kd.R_lt (Kd.R_up HO521.out))) (Kd.R_lt (Kd.R_up HO533.out))) (Kd.R_lt (Kd.R_up HO544.out))) (Kd.R_lt (Kd.R_up HO556.out))) (Kd.R_lt (Kd.R_up HO567.out))) (Kd.R_lt (Kd.R_up HO579.out))) (below_size (bel HB.out)))
          have n17_ := Aside0.mk (Kd.R_lower (Kd.R_new' (Kd.R_new' (Kd.R_new' (Kd.R_new' (Kd.R_new' (Kd.R_new' (Kd.R_new' (Kd.R_new' ho1 (Kd.R_lt (Kd.R_up HO503.out))) (Kd.R_lt (Kd.R_up HO515.out))) (Kd.R_lt (Kd.R_up HO526.out))) (Kd.R_lt (Kd.R_up HO538.out))) (Kd.R_lt (Kd.R_up HO549.out))) (Kd.R_lt (Kd.R_up HO561.out))) (Kd.R_lt (Kd.R_up HO572.out))) (Kd.R_lt (Kd.R_up HO584.out))) (below_size (bel HB.out)))
          have n18_ := Aside0.mk (blk_below (g := gb475) (o := .cells #[.int .i64 a0_0, .int .i64 a0_1, .int .i64 a0_2, .slice A0_3 l0_3.length c0_3, .bool a0_4, .string a0_5, .slice A0_6 l0_6.length c0_6] 37 (0, 0)) (bup BK475.out) hb)
          have n19_ := Aside0.mk (blk_below (g := gb476) (o := .cells #[.int .i64 a1_0, .int .i64 a1_1, .int .i64 a1_2, .slice A1_3 l1_3.length c1_3, .bool a1_4, .string a1_5, .slice A1_6 l1_6.length c1_6] 37 (0, 0)) (bup BK476.out) hb)
          have n20_ := Aside0.mk (blk_below (g := gb504) (o := .cells #[.int .i64 t493, .int .i64 t494, .int .i64 t495, .slice Ao35 t496.length co35, .bool t499, .string t500, .slice Ao36 t501.length co36] 37 (0, 0)) (bup BK504.out) hb)
          have n21_ := Aside0.mk (below_step (bel HB.out) hb)
          clear HO498
          clear HO503
          clear HO510
          clear HO515
          clear HO521
          clear HO526
          clear HO533
          clear HO538
          clear HO544
          clear HO549
          clear HO556
          clear HO561
          clear HO567
          clear HO572
          clear HO579
          clear HO584
          clear BK475
          clear BK476
          clear BK504
          clear HB
          have HO498 := n0_
          have HO503 := n1_
          have HO510 := n2_
          have HO515 := n3_
          have HO521 := n4_
          have HO526 := n5_
          have HO533 := n6_
          have HO538 := n7_
          have HO544 := n8_
          have HO549 := n9_
          have HO556 := n10_
          have HO561 := n11_
          have HO567 := n12_
          have HO572 := n13_
          have HO579 := n14_
          have HO584 := n15_
          have HO590 := n16_
          have HO595 := n17_
          have BK475 := n18_
          have BK476 := n19_
          have BK504 := n20_
          have HB := n21_
          clear n0_ n1_ n2_ n3_ n4_ n5_ n6_ n7_ n8_ n9_ n10_ n11_ n12_ n13_ n14_ n15_ n16_ n17_ n18_ n19_ n20_ n21_
          (try clear hb)
          (try clear hb2)
          (try clear hk)
          (try clear hi)
          (try clear ho0)
          (try clear ho1)
          obtain ⟨Ao80, co80, eo80⟩ := Kd.R_slice HO579.out
          (first | subst eo80 | (injection eo80 with f1_ f2_ f3_; have f4_ := f1_.symm; have f5_ := f3_.symm; clear f1_ f2_ f3_; subst f4_; subst f5_))
          obtain ⟨Ao81, co81, eo81⟩ := Kd.R_slice HO584.out
          (first | subst eo81 | (injection eo81 with f1_ f2_ f3_; have f4_ := f1_.symm; have f5_ := f3_.symm; clear f1_ f2_ f3_; subst f4_; subst f5_))
          obtain ⟨Ao82, co82, eo82⟩ := Kd.R_slice HO590.out
          (first | subst eo82 | (injection eo82 with f1_ f2_ f3_; have f4_ := f1_.symm; have f5_ := f3_.symm; clear f1_ f2_ f3_; subst f4_; subst f5_))
          obtain ⟨Ao83, co83, eo83⟩ := Kd.R_slice HO595.out
          (first | subst eo83 | (injection eo83 with f1_ f2_ f3_; have f4_ := f1_.symm; have f5_ := f3_.symm; clear f1_ f2_ f3_; subst f4_; subst f5_))
          refine hK.out _ _ ⟨(blk_cell BK504.out 0).trans rfl, (blk_cell BK504.out 1).trans rfl, (blk_cell BK504.out 2).trans rfl, (blk_cell BK504.out 3).trans rfl, (blk_cell BK504.out 4).trans rfl, (blk_cell BK504.out 5).trans rfl, (blk_cell BK504.out 6).trans rfl, (blk_cell BK475.out 0).trans rfl, (blk_cell BK475.out 1).trans rfl, (blk_cell BK475.out 2).trans rfl, (blk_cell BK475.out 3).trans rfl, (blk_cell BK475.out 4).trans rfl, (blk_cell BK475.out 5).trans rfl, (blk_cell BK475.out 6).trans rfl⟩ (fun hHeld => ?_)
          clear hK K
          refine norm_ (a' := ?_) ?_ ?_
          rotate_left
          ·show Act.put _ (some 67) _ = _
           simp only [Act.put, List.setIfInBounds_toArray, List.set_cons_zero, List.set_cons_succ, i64_w, i32_w]
           rfl
          refine one_ (i := 33) (N := some 68) #[true, true, true, true, true, true, true, true, true, true, true, true, true, true, true, true, true, true, true, true, true, true, true, true, true, true, true, true, true, true, true, true, true, true, false, false, false, false, false, false, false, false, false, false, false] rfl rfl (one_of HT_.out (by kernel_rfl)) (by decide) (fun K hK => ?_)
          refine goes_ Try.func19 (by kernel_rfl) rfl #[.agg #[.int .i64 t574, .int .i64 t575, .int .i64 t576, .slice Ao80 t577.length co80, .bool t580, .string t581, .slice Ao81 t582.length co81], .agg #[.int .i64 t585, .int .i64 t586, .int .i64 t587, .slice Ao82 t588.length co82, .bool t591, .string t592, .slice Ao83 t593.length co83]] (by rfl) rfl rfl (by (try simp only [List.map_toArray, List.map_cons, List.map_nil]); first | done | rfl | (simp only [List.length_drop, List.length_take]; rfl)) ?_
          with_reducible refine (reefref16_Same.calls kj5 t574 t575 t576 _ _ t577 t580 t581 _ _ t582 t585 t586 t587 _ _ t588 t591 t592 _ _ t593 true _ ?side1 ?side2 ?side3 ?side4 ?side5 ?side6 ?side7 ?side8 A51.out).mono ?_
          (case side1 => repeat (first | exact (Kd.R_reads' HO579.out).2.2 | (with_reducible refine Kd.C_alloc ?_ _) | (with_reducible refine Kd.C_drewN ?_ _) | (with_reducible refine Kd.C_drew ?_)))
          (case side2 => exact (Kd.R_reads' HO579.out).2.1)
          (case side3 => repeat (first | exact (Kd.R_reads' HO584.out).2.2 | (with_reducible refine Kd.C_alloc ?_ _) | (with_reducible refine Kd.C_drewN ?_ _) | (with_reducible refine Kd.C_drew ?_)))
          (case side4 => exact (Kd.R_reads' HO584.out).2.1)
          (case side5 => repeat (first | exact (Kd.R_reads' HO590.out).2.2 | (with_reducible refine Kd.C_alloc ?_ _) | (with_reducible refine Kd.C_drewN ?_ _) | (with_reducible refine Kd.C_drew ?_)))
          (case side6 => exact (Kd.R_reads' HO590.out).2.1)
          (case side7 => repeat (first | exact (Kd.R_reads' HO595.out).2.2 | (with_reducible refine Kd.C_alloc ?_ _) | (with_reducible refine Kd.C_drewN ?_ _) | (with_reducible refine Kd.C_drew ?_)))
          (case side8 => exact (Kd.R_reads' HO595.out).2.1)
          rintro e w84 ⟨rfl, hb⟩
          refine ⟨_, rfl, ?_⟩
          have n0_ := Aside0.mk (Kd.R_below (Kd.R_up HO498.out) hb)
          have n1_ := Aside0.mk (Kd.R_below (Kd.R_up HO503.out) hb)
          have n2_ := Aside0.mk (Kd.R_below (Kd.R_up HO510.out) hb)
          have n3_ := Aside0.mk (Kd.R_below (Kd.R_up HO515.out) hb)
          have n4_ := Aside0.mk (Kd.R_below (Kd.R_up HO521.out) hb)
          have n5_ := Aside0.mk (Kd.R_below (Kd.R_up HO526.out) hb)
          have n6_ := Aside0.mk (Kd.R_below (Kd.R_up HO533.out) hb)
          have n7_ := Aside0.mk (Kd.R_below (Kd.R_up HO538.out) hb)
          have n8_ := Aside0.mk (Kd.R_below (Kd.R_up HO544.out) hb)
          have n9_ := Aside0.mk (Kd.R_below (Kd.R_up HO549.out) hb)
          have n10_ := Aside0.mk (Kd.R_below (Kd.R_up HO556.out) hb)
          have n11_ := Aside0.mk (Kd.R_below (Kd.R_up HO561.out) hb)
          have n12_ := Aside0.mk (Kd.R_below (Kd.R_up HO567.out) hb)
          have n13_ := Aside0.mk (Kd.R_below (Kd.R_up HO572.out) hb)
          have n14_ := Aside0.mk (Kd.R_below (Kd.R_up HO579.out) hb)
          have n15_ := Aside0.mk (Kd.R_below (Kd.R_up HO584.out) hb)
          have n16_ := Aside0.mk (Kd.R_below (Kd.R_up HO590.out) hb)
          have n17_ := Aside0.mk (Kd.R_below (Kd.R_up HO595.out) hb)
          have n18_ := Aside0.mk (blk_below (g := gb475) (o := .cells #[.int .i64 a0_0, .int .i64 a0_1, .int .i64 a0_2, .slice A0_3 l0_3.length c0_3, .bool a0_4, .string a0_5, .slice A0_6 l0_6.length c0_6] 37 (0, 0)) (bup BK475.out) hb)
          have n19_ := Aside0.mk (blk_below (g := gb476) (o := .cells #[.int .i64 a1_0, .int .i64 a1_1, .int .i64 a1_2, .slice A1_3 l1_3.length c1_3, .bool a1_4, .string a1_5, .slice A1_6 l1_6.length c1_6] 37 (0, 0)) (bup BK476.out) hb)
          have n20_ := Aside0.mk (blk_below (g := gb504) (o := .cells #[.int .i64 t493, .int .i64 t494, .int .i64 t495, .slice Ao35 t496.length co35, .bool t499, .string t500, .slice Ao36 t501.length co36] 37 (0, 0)) (bup BK504.out) hb)
          have n21_ := Aside0.mk (below_step (bel HB.out) hb)
          clear HO498
          clear HO503
          clear HO510
          clear HO515
          clear HO521
          clear HO526
          clear HO533
          clear HO538
          clear HO544
          clear HO549
          clear HO556
          clear HO561
          clear HO567
          clear HO572
          clear HO579
          clear HO584
          clear HO590
          clear HO595
          clear BK475
          clear BK476
          clear BK504
          clear HB
          have HO498 := n0_
          have HO503 := n1_
          have HO510 := n2_
          have HO515 := n3_
          have HO521 := n4_
          have HO526 := n5_
          have HO533 := n6_
          have HO538 := n7_
          have HO544 := n8_
          have HO549 := n9_
          have HO556 := n10_
          have HO561 := n11_
          have HO567 := n12_
          have HO572 := n13_
          have HO579 := n14_
          have HO584 := n15_
          have HO590 := n16_
          have HO595 := n17_
          have BK475 := n18_
          have BK476 := n19_
          have BK504 := n20_
          have HB := n21_
          clear n0_ n1_ n2_ n3_ n4_ n5_ n6_ n7_ n8_ n9_ n10_ n11_ n12_ n13_ n14_ n15_ n16_ n17_ n18_ n19_ n20_ n21_
          (try clear hb)
          (try clear hb2)
          (try clear hk)
          (try clear hi)
          refine hK.out _ _ ⟨(blk_cell BK504.out 0).trans rfl, (blk_cell BK504.out 1).trans rfl, (blk_cell BK504.out 2).trans rfl, (blk_cell BK504.out 3).trans rfl, (blk_cell BK504.out 4).trans rfl, (blk_cell BK504.out 5).trans rfl, (blk_cell BK504.out 6).trans rfl, (blk_cell BK475.out 0).trans rfl, (blk_cell BK475.out 1).trans rfl, (blk_cell BK475.out 2).trans rfl, (blk_cell BK475.out 3).trans rfl, (blk_cell BK475.out 4).trans rfl, (blk_cell BK475.out 5).trans rfl, (blk_cell BK475.out 6).trans rfl⟩ (fun hHeld => ?_)
          clear hK K
          refine norm_ (a' := ?_) ?_ ?_
          rotate_left
          ·show Act.put _ (some 68) _ = _
           simp only [Act.put, List.setIfInBounds_toArray, List.set_cons_zero, List.set_cons_succ, i64_w, i32_w]
           rfl
          refine pure_ (i := 34) (N := some 69) (v := ?_) (a' := ?_) #[true, true, true, true, true, true, true, true, true, true, true, true, true, true, true, true, true, true, true, true, true, true, true, true, true, true, true, true, true, true, true, true, true, true, true, false, false, false, false, false, false, false, false, false, false] rfl rfl (any_of HT_.out (by kernel_rfl)) (fun _ _ _ h => h) (Or.inl ⟨by rfl, ?_⟩) ?_ ?_
          rotate_left
          ·intro w'
           go_simp
           with_reducible rfl
          rotate_left
          ·simp only [Act.put, List.setIfInBounds_toArray, List.set_cons_zero, List.set_cons_succ, i64_w, i32_w]
           rfl
          refine pure_ (i := 35) (N := some 70) (v := ?_) (a' := ?_) #[true, true, true, true, true, true, true, true, true, true, true, true, true, true, true, true, true, true, true, true, true, true, true, true, true, true, true, true, true, true, true, true, true, true, true, true, false, false, false, false, false, false, false, false, false] rfl rfl (any_of HT_.out (by kernel_rfl)) (fun _ _ _ h => h) (Or.inl ⟨by rfl, ?_⟩) ?_ ?_
          rotate_left
          ·intro w'
           go_simp
           with_reducible rfl
          rotate_left
          ·simp only [Act.put, List.setIfInBounds_toArray, List.set_cons_zero, List.set_cons_succ, i64_w, i32_w]
           rfl
          refine pure_ (i := 36) (N := some 71) (v := ?_) (a' := ?_) #[true, true, true, true, true, true, true, true, true, true, true, true, true, true, true, true, true, true, true, true, true, true, true, true, true, true, true, true, true, true, true, true, true, true, true, true, true, false, false, false, false, false, false, false, false] rfl rfl (any_of HT_.out (by kernel_rfl)) (fun _ _ _ h => h) (Or.inl ⟨by rfl, ?_⟩) ?_ ?_
          rotate_left
          ·intro w'
           go_simp
           with_reducible rfl
          rotate_left
          ·simp only [Act.put, List.setIfInBounds_toArray, List.set_cons_zero, List.set_cons_succ, i64_w, i32_w]
           rfl
          refine pure_ (i := 38) (N := some 73) (v := ?_) (a' := ?_) #[true, true, true, true, true, true, true, true, true, true, true, true, true, true, true, true, true, true, true, true, true, true, true, true, true, true, true, true, true, true, true, true, true, true, true, true, true, false, true, false, false, false, false, false, false] rfl rfl (any_of HT_.out (by kernel_rfl)) (fun _ _ _ h => h) (Or.inl ⟨by rfl, ?_⟩) ?_ ?_
          rotate_left
          ·intro w'
           go_simp
           with_reducible rfl
          rotate_left
          ·simp only [Act.put, List.setIfInBounds_toArray, List.set_cons_zero, List.set_cons_succ, i64_w, i32_w]
           rfl
          refine pure_ (i := 41) (N := some 76) (v := ?_) (a' := ?_) #[true, true, true, true, true, true, true, true, true, true, true, true, true, true, true, true, true, true, true, true, true, true, true, true, true, true, true, true, true, true, true, true, true, true, true, true, true, false, true, false, false, true, false, false, false] rfl rfl (any_of HT_.out (by kernel_rfl)) (fun _ _ _ h => h) (Or.inl ⟨by rfl, ?_⟩) ?_ ?_
          rotate_left
          ·intro w'
           go_simp
           with_reducible rfl
          rotate_left
          ·simp only [Act.put, List.setIfInBounds_toArray, List.set_cons_zero, List.set_cons_succ, i64_w, i32_w]
           rfl
          refine take_ (i := 37) (N := some 72) (v := ?_) (a' := ?_) #[true, true, true, true, true, true, true, true, true, true, true, true, true, true, true, true, true, true, true, true, true, true, true, true, true, true, true, true, true, true, true, true, true, true, true, true, true, true, true, false, false, true, false, false, false] rfl rfl (take_ofW HT_.out HW_.out (by kernel_rfl)) (fun _ _ _ h => h) (Or.inl ⟨by rfl, ?_⟩) hHeld ?_ ?_
          rotate_left
          ·rintro w' ⟨s0, s1, s2, s3, s4, s5, s6, s7, s8, s9, s10, s11, s12, s13⟩
           go_simp
           with_reducible rfl
          rotate_left
          ·simp only [Act.put, List.setIfInBounds_toArray, List.set_cons_zero, List.set_cons_succ, i64_w, i32_w]
           rfl
          refine take_ (i := 40) (N := some 75) (v := ?_) (a' := ?_) #[true, true, true, true, true, true, true, true, true, true, true, true, true, true, true, true, true, true, true, true, true, true, true, true, true, true, true, true, true, true, true, true, true, true, true, true, true, true, true, false, true, true, false, false, false] rfl rfl (take_ofW HT_.out HW_.out (by kernel_rfl)) (fun _ _ _ h => h) (Or.inl ⟨by rfl, ?_⟩) hHeld ?_ ?_
          rotate_left
          ·rintro w' ⟨s0, s1, s2, s3, s4, s5, s6, s7, s8, s9, s10, s11, s12, s13⟩
           go_simp
           with_reducible rfl
          rotate_left
          ·simp only [Act.put, List.setIfInBounds_toArray, List.set_cons_zero, List.set_cons_succ, i64_w, i32_w]
           rfl
          refine one_ (i := 39) (N := some 74) #[true, true, true, true, true, true, true, true, true, true, true, true, true, true, true, true, true, true, true, true, true, true, true, true, true, true, true, true, true, true, true, true, true, true, true, true, true, true, true, true, true, true, false, false, false] rfl rfl (one_of HT_.out (by kernel_rfl)) (by decide) (fun K hK => ?_)
          refine goes_ Try.func34 (by kernel_rfl) rfl #[.agg #[.int .i64 t493, .int .i64 t494, .int .i64 t495, .slice Ao35 t496.length co35, .bool t499, .string t500, .slice Ao36 t501.length co36], .int .i64 a4] (by rfl) rfl rfl (by (try simp only [List.map_toArray, List.map_cons, List.map_nil]); first | done | rfl | (simp only [List.length_drop, List.length_take]; rfl)) ?_
          with_reducible refine (lead_Chosen.calls t493 t494 t495 _ _ t496 t499 t500 _ _ t501 a4 t597 _ ?side1 ?side2 ?side3 ?side4 A53.out).mono ?_
          (case side1 => repeat (first | exact (Kd.R_reads' HO498.out).2.2 | (with_reducible refine Kd.C_alloc ?_ _) | (with_reducible refine Kd.C_drewN ?_ _) | (with_reducible refine Kd.C_drew ?_)))
          (case side2 => exact (Kd.R_reads' HO498.out).2.1)
          (case side3 => repeat (first | exact (Kd.R_reads' HO503.out).2.2 | (with_reducible refine Kd.C_alloc ?_ _) | (with_reducible refine Kd.C_drewN ?_ _) | (with_reducible refine Kd.C_drew ?_)))
          (case side4 => exact (Kd.R_reads' HO503.out).2.1)
          rintro e w85 ⟨rfl, hb⟩
          refine ⟨_, rfl, ?_⟩
          have n0_ := Aside0.mk (Kd.R_below (Kd.R_up HO498.out) hb)
          have n1_ := Aside0.mk (Kd.R_below (Kd.R_up HO503.out) hb)
          have n2_ := Aside0.mk (Kd.R_below (Kd.R_up HO510.out) hb)
          have n3_ := Aside0.mk (Kd.R_below (Kd.R_up HO515.out) hb)
          have n4_ := Aside0.mk (Kd.R_below (Kd.R_up HO521.out) hb)
          have n5_ := Aside0.mk (Kd.R_below (Kd.R_up HO526.out) hb)
          have n6_ := Aside0.mk (Kd.R_below (Kd.R_up HO533.out) hb)
          have n7_ := Aside0.mk (Kd.R_below (Kd.R_up HO538.out) hb)
          have n8_ := Aside0.mk (Kd.R_below (Kd.R_up HO544.out) hb)
          have n9_ := Aside0.mk (Kd.R_below (Kd.R_up HO549.out) hb)
          have n10_ := Aside0.mk (Kd.R_below (Kd.R_up HO556.out) hb)
          have n11_ := Aside0.mk (Kd.R_below (Kd.R_up HO561.out) hb)
          have n12_ := Aside0.mk (Kd.R_below (Kd.R_up HO567.out) hb)
          have n13_ := Aside0.mk (Kd.R_below (Kd.R_up HO572.out) hb)
          have n14_ := Aside0.mk (Kd.R_below (Kd.R_up HO579.out) hb)
          have n15_ := Aside0.mk (Kd.R_below (Kd.R_up HO584.out) hb)
          have n16_ := Aside0.mk (Kd.R_below (Kd.R_up HO590.out) hb)
          have n17_ := Aside0.mk (Kd.R_below (Kd.R_up HO595.out) hb)
          have n18_ := Aside0.mk (blk_below (g := gb475) (o := .cells #[.int .i64 a0_0, .int .i64 a0_1, .int .i64 a0_2, .slice A0_3 l0_3.length c0_3, .bool a0_4, .string a0_5, .slice A0_6 l0_6.length c0_6] 37 (0, 0)) (bup BK475.out) hb)
          have n19_ := Aside0.mk (blk_below (g := gb476) (o := .cells #[.int .i64 a1_0, .int .i64 a1_1, .int .i64 a1_2, .slice A1_3 l1_3.length c1_3, .bool a1_4, .string a1_5, .slice A1_6 l1_6.length c1_6] 37 (0, 0)) (bup BK476.out) hb)
          have n20_ := Aside0.mk (blk_below (g := gb504) (o := .cells #[.int .i64 t493, .int .i64 t494, .int .i64 t495, .slice Ao35 t496.length co35, .bool t499, .string t500, .slice Ao36 t501.length co36] 37 (0, 0)) (bup BK504.out) hb)
          have n21_ := Aside0.mk (below_step (bel HB.out) hb)
          clear HO498
          clear HO503
          clear HO510
          clear HO515
          clear HO521
          clear HO526
          clear HO533
          clear HO538
          clear HO544
          clear HO549
          clear HO556
          clear HO561
          clear HO567
          clear HO572
          clear HO579
          clear HO584
          clear HO590
          clear HO595
          clear BK475
          clear BK476
          clear BK504
          clear HB
          have HO498 := n0_
          have HO503 := n1_
          have HO510 := n2_
          have HO515 := n3_
          have HO521 := n4_
          have HO526 := n5_
          have HO533 := n6_
          have HO538 := n7_
          have HO544 := n8_
          have HO549 := n9_
          have HO556 := n10_
          have HO561 := n11_
          have HO567 := n12_
          have HO572 := n13_
          have HO579 := n14_
          have HO584 := n15_
          have HO590 := n16_
          have HO595 := n17_
          have BK475 := n18_
          have BK476 := n19_
          have BK504 := n20_
          have HB := n21_
          clear n0_ n1_ n2_ n3_ n4_ n5_ n6_ n7_ n8_ n9_ n10_ n11_ n12_ n13_ n14_ n15_ n16_ n17_ n18_ n19_ n20_ n21_
          (try clear hb)
          (try clear hb2)
          (try clear hk)
          (try clear hi)
          refine hK.out _ _ ⟨(blk_cell BK504.out 0).trans rfl, (blk_cell BK504.out 1).trans rfl, (blk_cell BK504.out 2).trans rfl, (blk_cell BK504.out 3).trans rfl, (blk_cell BK504.out 4).trans rfl, (blk_cell BK504.out 5).trans rfl, (blk_cell BK504.out 6).trans rfl, (blk_cell BK475.out 0).trans rfl, (blk_cell BK475.out 1).trans rfl, (blk_cell BK475.out 2).trans rfl, (blk_cell BK475.out 3).trans rfl, (blk_cell BK475.out 4).trans rfl, (blk_cell BK475.out 5).trans rfl, (blk_cell BK475.out 6).trans rfl⟩ (fun hHeld => ?_)
          clear hK K
          refine norm_ (a' := ?_) ?_ ?_
          rotate_left
          ·show Act.put _ (some 74) _ = _
           simp only [Act.put, List.setIfInBounds_toArray, List.set_cons_zero, List.set_cons_succ, i64_w, i32_w]
           rfl
          refine one_ (i := 42) (N := some 77) #[true, true, true, true, true, true, true, true, true, true, true, true, true, true, true, true, true, true, true, true, true, true, true, true, true, true, true, true, true, true, true, true, true, true, true, true, true, true, true, true, true, true, true, false, false] rfl rfl (one_of HT_.out (by kernel_rfl)) (by decide) (fun K hK => ?_)
          refine goes_ Try.func35 (by kernel_rfl) rfl #[.agg #[.int .i64 a0_0, .int .i64 a0_1, .int .i64 a0_2, .slice A0_3 l0_3.length c0_3, .bool a0_4, .string a0_5, .slice A0_6 l0_6.length c0_6], .int .i64 a4] (by rfl) rfl rfl (by (try simp only [List.map_toArray, List.map_cons, List.map_nil]); first | done | rfl | (simp only [List.length_drop, List.length_take]; rfl)) ?_
          with_reducible refine (reefref16_Chosen.calls a0_0 a0_1 a0_2 _ _ l0_3 a0_4 a0_5 _ _ l0_6 a4 t598 _ ?side1 ?side2 ?side3 ?side4 A54.out).mono ?_
          (case side1 => exact Kd.C_up (Kd.C_below HR0_3.out HB.out))
          (case side2 => exact HC0_3.out)
          (case side3 => exact Kd.C_up (Kd.C_below HR0_6.out HB.out))
          (case side4 => exact HC0_6.out)
          rintro e w86 ⟨rfl, hb⟩
          refine ⟨_, rfl, ?_⟩
          have n0_ := Aside0.mk (Kd.R_below (Kd.R_up HO498.out) hb)
          have n1_ := Aside0.mk (Kd.R_below (Kd.R_up HO503.out) hb)
          have n2_ := Aside0.mk (Kd.R_below (Kd.R_up HO510.out) hb)
          have n3_ := Aside0.mk (Kd.R_below (Kd.R_up HO515.out) hb)
          have n4_ := Aside0.mk (Kd.R_below (Kd.R_up HO521.out) hb)
          have n5_ := Aside0.mk (Kd.R_below (Kd.R_up HO526.out) hb)
          have n6_ := Aside0.mk (Kd.R_below (Kd.R_up HO533.out) hb)
          have n7_ := Aside0.mk (Kd.R_below (Kd.R_up HO538.out) hb)
          have n8_ := Aside0.mk (Kd.R_below (Kd.R_up HO544.out) hb)
          have n9_ := Aside0.mk (Kd.R_below (Kd.R_up HO549.out) hb)
          have n10_ := Aside0.mk (Kd.R_below (Kd.R_up HO556.out) hb)
          have n11_ := Aside0.mk (Kd.R_below (Kd.R_up HO561.out) hb)
          have n12_ := Aside0.mk (Kd.R_below (Kd.R_up HO567.out) hb)
          have n13_ := Aside0.mk (Kd.R_below (Kd.R_up HO572.out) hb)
          have n14_ := Aside0.mk (Kd.R_below (Kd.R_up HO579.out) hb)
          have n15_ := Aside0.mk (Kd.R_below (Kd.R_up HO584.out) hb)
          have n16_ := Aside0.mk (Kd.R_below (Kd.R_up HO590.out) hb)
          have n17_ := Aside0.mk (Kd.R_below (Kd.R_up HO595.out) hb)
          have n18_ := Aside0.mk (blk_below (g := gb475) (o := .cells #[.int .i64 a0_0, .int .i64 a0_1, .int .i64 a0_2, .slice A0_3 l0_3.length c0_3, .bool a0_4, .string a0_5, .slice A0_6 l0_6.length c0_6] 37 (0, 0)) (bup BK475.out) hb)
          have n19_ := Aside0.mk (blk_below (g := gb476) (o := .cells #[.int .i64 a1_0, .int .i64 a1_1, .int .i64 a1_2, .slice A1_3 l1_3.length c1_3, .bool a1_4, .string a1_5, .slice A1_6 l1_6.length c1_6] 37 (0, 0)) (bup BK476.out) hb)
          have n20_ := Aside0.mk (blk_below (g := gb504) (o := .cells #[.int .i64 t493, .int .i64 t494, .int .i64 t495, .slice Ao35 t496.length co35, .bool t499, .string t500, .slice Ao36 t501.length co36] 37 (0, 0)) (bup BK504.out) hb)
          have n21_ := Aside0.mk (below_step (bel HB.out) hb)
          clear HO498
          clear HO503
          clear HO510
          clear HO515
          clear HO521
          clear HO526
          clear HO533
          clear HO538
          clear HO544
          clear HO549
          clear HO556
          clear HO561
          clear HO567
          clear HO572
          clear HO579
          clear HO584
          clear HO590
          clear HO595
          clear BK475
          clear BK476
          clear BK504
          clear HB
          have HO498 := n0_
          have HO503 := n1_
          have HO510 := n2_
          have HO515 := n3_
          have HO521 := n4_
          have HO526 := n5_
          have HO533 := n6_
          have HO538 := n7_
          have HO544 := n8_
          have HO549 := n9_
          have HO556 := n10_
          have HO561 := n11_
          have HO567 := n12_
          have HO572 := n13_
          have HO579 := n14_
          have HO584 := n15_
          have HO590 := n16_
          have HO595 := n17_
          have BK475 := n18_
          have BK476 := n19_
          have BK504 := n20_
          have HB := n21_
          clear n0_ n1_ n2_ n3_ n4_ n5_ n6_ n7_ n8_ n9_ n10_ n11_ n12_ n13_ n14_ n15_ n16_ n17_ n18_ n19_ n20_ n21_
          (try clear hb)
          (try clear hb2)
          (try clear hk)
          (try clear hi)
          refine hK.out _ _ ⟨(blk_cell BK504.out 0).trans rfl, (blk_cell BK504.out 1).trans rfl, (blk_cell BK504.out 2).trans rfl, (blk_cell BK504.out 3).trans rfl, (blk_cell BK504.out 4).trans rfl, (blk_cell BK504.out 5).trans rfl, (blk_cell BK504.out 6).trans rfl, (blk_cell BK475.out 0).trans rfl, (blk_cell BK475.out 1).trans rfl, (blk_cell BK475.out 2).trans rfl, (blk_cell BK475.out 3).trans rfl, (blk_cell BK475.out 4).trans rfl, (blk_cell BK475.out 5).trans rfl, (blk_cell BK475.out 6).trans rfl⟩ (fun hHeld => ?_)
          clear hK K
          refine norm_ (a' := ?_) ?_ ?_
          rotate_left
          ·show Act.put _ (some 77) _ = _
           simp only [Act.put, List.setIfInBounds_toArray, List.set_cons_zero, List.set_cons_succ, i64_w, i32_w]
           rfl
          refine pure_ (i := 43) (N := some 78) (v := ?_) (a' := ?_) #[true, true, true, true, true, true, true, true, true, true, true, true, true, true, true, true, true, true, true, true, true, true, true, true, true, true, true, true, true, true, true, true, true, true, true, true, true, true, true, true, true, true, true, true, false] rfl rfl (any_of HT_.out (by kernel_rfl)) (fun _ _ _ h => h) (Or.inl ⟨by rfl, ?_⟩) ?_ ?_
          rotate_left
          ·intro w'
           go_simp
           with_reducible rfl
          rotate_left
          ·simp only [Act.put, List.setIfInBounds_toArray, List.set_cons_zero, List.set_cons_succ, i64_w, i32_w]
           rfl
          refine pure_ (i := 44) (N := some 79) (v := ?_) (a' := ?_) #[true, true, true, true, true, true, true, true, true, true, true, true, true, true, true, true, true, true, true, true, true, true, true, true, true, true, true, true, true, true, true, true, true, true, true, true, true, true, true, true, true, true, true, true, true] rfl rfl (any_of HT_.out (by kernel_rfl)) (fun _ _ _ h => h) (Or.inl ⟨by rfl, ?_⟩) ?_ ?_
          rotate_left
          ·intro w'
           go_simp
           with_reducible rfl
          rotate_left
          ·simp only [Act.put, List.setIfInBounds_toArray, List.set_cons_zero, List.set_cons_succ, i64_w, i32_w]
           rfl
          refine done_ (done_of HT_.out (by kernel_rfl)) ?_
          try go_wp2
          go_meet
          case rel => exact ⟨_, ((t597 != t598)), (by first | rfl | (simp; done) | (simp [*]; done)), H', ⟨by have := HJ5.out; first | omega | exact Nat.le_refl _⟩, ⟨by (with_reducible repeat (first | apply Kd.R_alloc | apply Kd.R_drewN | apply Kd.R_drew)); exact Kd.R_mono HO498.out (fun _ hk => trivial)⟩, ⟨by (with_reducible repeat (first | apply Kd.R_alloc | apply Kd.R_drewN | apply Kd.R_drew)); exact Kd.R_mono HO503.out (fun _ hk => trivial)⟩, ⟨bup BK475.out⟩, ⟨bup BK476.out⟩, ⟨bup BK504.out⟩, ⟨bel HB.out⟩⟩
         ·replace c52 := Bool.eq_false_iff.mpr c52
          subst c52
          have H1 : (none) = some r := by rw [if_neg (show ¬ (false = true) by decide)] at H; exact H
          clear H
          have H := H1
          clear H1
          exact absurd H (by simp)
        ·replace c48 := Bool.eq_false_iff.mpr c48
         subst c48
         have H1 : (none) = some r := by rw [if_neg (show ¬ (false = true) by decide)] at H; exact H
         clear H
         have H := H1
         clear H1
         exact absurd H (by simp)
       ·replace c44 := Bool.eq_false_iff.mpr c44
        subst c44
        have H1 : (none) = some r := by rw [if_neg (show ¬ (false = true) by decide)] at H; exact H
        clear H
        have H := H1
        clear H1
        exact absurd H (by simp)
      ·replace c40 := Bool.eq_false_iff.mpr c40
       subst c40
       have H1 : (none) = some r := by rw [if_neg (show ¬ (false = true) by decide)] at H; exact H
       clear H
       have H := H1
       clear H1
       exact absurd H (by simp)
     case rest =>
      clear HC25
      try clear c1
      try clear p2
      try clear c3
      try clear c4
      try clear c5
      try clear c19
      try clear c32
      try clear c33
      try clear c34
      try clear c35
      try clear c40
      try clear c44
      try clear c48
      try clear c52
      obtain ⟨kq, x79_24, rfl, HA, HJ24, HO_505003, HO_505006, BK475, BK476, BK504, HB⟩ := hcut
      cases kq with
      | zero => exact absurd HA.out (by simp [reeflaw16_LeadDoes.j1])
      | succ kj24 =>
       have H := HA.out
       clear HA
       simp only [reeflaw16_LeadDoes.j1] at H
       by_cases c87 : x79_24 = true
       ·subst c87
        have H1 : (none) = some r := by rw [if_pos rfl] at H; exact H
        clear H
        have H := H1
        clear H1
        exact absurd H (by simp)
       ·replace c87 := Bool.eq_false_iff.mpr c87
        subst c87
        have H1 : ((lead_Wait.f t493 t494 t495 t496 t499 t500 t501 a4).bind fun t599 => ((reefref16_Wait.f kj24 a0_0 a0_1 a0_2 l0_3 a0_4 a0_5 l0_6 a4).bind fun t602 => (if (t599.length : Int) = (t602.length : Int) then (reeflaw16_LeadDoes.l0 kj24 t599 t602 0 a0_0 a0_1 a0_2 l0_3 a0_4 a0_5 l0_6 t493 t494 t495 t496 t499 t500 t501) else (none)))) = some r := by rw [if_neg (show ¬ (false = true) by decide)] at H; exact H
        clear H
        have H := H1
        clear H1
        replace H := Option.bind_eq_some_iff.mp H
        obtain ⟨t599, A880, H⟩ := H
        replace H : ((reefref16_Wait.f kj24 a0_0 a0_1 a0_2 l0_3 a0_4 a0_5 l0_6 a4).bind fun t602 => (if (t599.length : Int) = (t602.length : Int) then (reeflaw16_LeadDoes.l0 kj24 t599 t602 0 a0_0 a0_1 a0_2 l0_3 a0_4 a0_5 l0_6 t493 t494 t495 t496 t499 t500 t501) else (none))) = some r := H
        have A88 := Aside0.mk A880
        clear A880
        replace H := Option.bind_eq_some_iff.mp H
        obtain ⟨t602, A890, H⟩ := H
        replace H : (if (t599.length : Int) = (t602.length : Int) then (reeflaw16_LeadDoes.l0 kj24 t599 t602 0 a0_0 a0_1 a0_2 l0_3 a0_4 a0_5 l0_6 t493 t494 t495 t496 t499 t500 t501) else (none)) = some r := H
        have A89 := Aside0.mk A890
        clear A890
        by_cases c90 : (t599.length : Int) = (t602.length : Int)
        ·rw [if_pos c90] at H
         have c90b0 : ((t599.length : Int) == (t602.length : Int)) = true := beq_iff_eq.mpr c90
         have c90b1 : ((t599.length : Int) != (t602.length : Int)) = false := bne_eq_false_iff_eq.mpr c90
         have c90b2 : (t599.length == t602.length) = true := by first | simpa using c90 | (simp at c90 ⊢; omega)
         clear c90
         have H' := Aside0.mk H
         clear H
         have hnb91 := NB504_475.out
         have hnc91 := NB475_504.out
         have hnb92 := NB504_476.out
         have hnc92 := NB476_504.out
         obtain ⟨hcz93_0, hcz93_1, hcz93_2, hcz93_3, hcz93_4, hcz93_5, hcz93_6⟩ := blkC7 wc gb504 (.int .i64 t493) (.int .i64 t494) (.int .i64 t495) (.slice Ao35 t496.length co35) (.bool t499) (.string t500) (.slice Ao36 t501.length co36) BK504.out
         obtain ⟨hfz93_0, hfz93_1, hfz93_2, hfz93_3, hfz93_4, hfz93_5, hfz93_6⟩ := blkF7 BK504.out
         go_wp2_with (first | ((with_reducible refine gate_callee (f := 36) rfl ?_); refine goesL_ (some 82) rfl rfl Try.func36 (by kernel_rfl) rfl #[.agg #[.int .i64 t493, .int .i64 t494, .int .i64 t495, .slice Ao35 t496.length co35, .bool t499, .string t500, .slice Ao36 t501.length co36], .int .i64 a4] rfl (by (try simp only [List.map_toArray, List.map_cons, List.map_nil]); first | done | rfl | (simp only [List.length_drop, List.length_take]; rfl)) ?_; (with_reducible refine (lead_Wait.calls t493 t494 t495 _ _ t496 t499 t500 _ _ t501 a4 t599 _ ?side1 ?side2 ?side3 ?side4 A88.out).mono ?_); (case side1 => repeat (first | exact (Kd.R_reads' HO_505003.out).2.2 | (with_reducible refine Kd.C_alloc ?_ _) | (with_reducible refine Kd.C_drewN ?_ _) | (with_reducible refine Kd.C_drew ?_))); (case side2 => exact (Kd.R_reads' HO_505003.out).2.1); (case side3 => repeat (first | exact (Kd.R_reads' HO_505006.out).2.2 | (with_reducible refine Kd.C_alloc ?_ _) | (with_reducible refine Kd.C_drewN ?_ _) | (with_reducible refine Kd.C_drew ?_))); (case side4 => exact (Kd.R_reads' HO_505006.out).2.1); rintro e w94 ⟨v600, rfl, ho0, hb⟩; refine ⟨_, rfl, ?_⟩; have n0_ := Aside0.mk (Kd.R_below (Kd.R_up HO_505003.out) hb); have n1_ := Aside0.mk (Kd.R_elder' (Kd.R_up HO_505006.out) (Kd.R_base ho0) hb); have n2_ := Aside0.mk (Kd.R_lower (Kd.R_new' ho0 (Kd.R_lt (Kd.R_up HO_505006.out))) (below_size (bel HB.out))); have n3_ := Aside0.mk (blk_below (g := gb475) (o := .cells #[.int .i64 a0_0, .int .i64 a0_1, .int .i64 a0_2, .slice A0_3 l0_3.length c0_3, .bool a0_4, .string a0_5, .slice A0_6 l0_6.length c0_6] 37 (0, 0)) (bup BK475.out) hb); have n4_ := Aside0.mk (blk_below (g := gb476) (o := .cells #[.int .i64 a1_0, .int .i64 a1_1, .int .i64 a1_2, .slice A1_3 l1_3.length c1_3, .bool a1_4, .string a1_5, .slice A1_6 l1_6.length c1_6] 37 (0, 0)) (bup BK476.out) hb); have n5_ := Aside0.mk (blk_below (g := gb504) (o := .cells #[.int .i64 t493, .int .i64 t494, .int .i64 t495, .slice Ao35 t496.length co35, .bool t499, .string t500, .slice Ao36 t501.length co36] 37 (0, 0)) (bup BK504.out) hb); have n6_ := Aside0.mk (below_step (bel HB.out) hb); clear HO_505003; clear HO_505006; clear BK475; clear BK476; clear BK504; clear HB; have HO_505003 := n0_; have HO_505006 := n1_; have HO601 := n2_; have BK475 := n3_; have BK476 := n4_; have BK504 := n5_; have HB := n6_; clear n0_ n1_ n2_ n3_ n4_ n5_ n6_; (try clear hb); (try clear hb2); (try clear hk); (try clear hi); (try clear ho0); have hnb95 := NB475_476.out; have hnc95 := NB476_475.out; obtain ⟨hcz96_0, hcz96_1, hcz96_2, hcz96_3, hcz96_4, hcz96_5, hcz96_6⟩ := blkC7 w94 gb475 (.int .i64 a0_0) (.int .i64 a0_1) (.int .i64 a0_2) (.slice A0_3 l0_3.length c0_3) (.bool a0_4) (.string a0_5) (.slice A0_6 l0_6.length c0_6) BK475.out; obtain ⟨hfz96_0, hfz96_1, hfz96_2, hfz96_3, hfz96_4, hfz96_5, hfz96_6⟩ := blkF7 BK475.out) | ((with_reducible refine gate_callee (f := 37) rfl ?_); refine goesL_ (some 85) rfl rfl Try.func37 (by kernel_rfl) rfl #[.agg #[.int .i64 a0_0, .int .i64 a0_1, .int .i64 a0_2, .slice A0_3 l0_3.length c0_3, .bool a0_4, .string a0_5, .slice A0_6 l0_6.length c0_6], .int .i64 a4] rfl (by (try simp only [List.map_toArray, List.map_cons, List.map_nil]); first | done | rfl | (simp only [List.length_drop, List.length_take]; rfl)) ?_; (with_reducible refine (reefref16_Wait.calls kj24 a0_0 a0_1 a0_2 _ _ l0_3 a0_4 a0_5 _ _ l0_6 a4 t602 _ ?side1 ?side2 ?side3 ?side4 A89.out).mono ?_); (case side1 => exact Kd.C_up (Kd.C_below HR0_3.out HB.out)); (case side2 => exact HC0_3.out); (case side3 => exact Kd.C_up (Kd.C_below HR0_6.out HB.out)); (case side4 => exact HC0_6.out); rintro e w97 ⟨v603, rfl, ho0, hb⟩; refine ⟨_, rfl, ?_⟩; have n0_ := Aside0.mk (Kd.R_below (Kd.R_up HO_505003.out) hb); have n1_ := Aside0.mk (Kd.R_elder' (Kd.R_up HO_505006.out) (Kd.R_base ho0) hb); have n2_ := Aside0.mk (Kd.R_elder' (Kd.R_up HO601.out) (Kd.R_base ho0) hb); have n3_ := Aside0.mk (Kd.R_lower (Kd.R_new' (Kd.R_new' ho0 (Kd.R_lt (Kd.R_up HO_505006.out))) (Kd.R_lt (Kd.R_up HO601.out))) (below_size (bel HB.out))); have n4_ := Aside0.mk (blk_below (g := gb475) (o := .cells #[.int .i64 a0_0, .int .i64 a0_1, .int .i64 a0_2, .slice A0_3 l0_3.length c0_3, .bool a0_4, .string a0_5, .slice A0_6 l0_6.length c0_6] 37 (0, 0)) (bup BK475.out) hb); have n5_ := Aside0.mk (blk_below (g := gb476) (o := .cells #[.int .i64 a1_0, .int .i64 a1_1, .int .i64 a1_2, .slice A1_3 l1_3.length c1_3, .bool a1_4, .string a1_5, .slice A1_6 l1_6.length c1_6] 37 (0, 0)) (bup BK476.out) hb); have n6_ := Aside0.mk (blk_below (g := gb504) (o := .cells #[.int .i64 t493, .int .i64 t494, .int .i64 t495, .slice Ao35 t496.length co35, .bool t499, .string t500, .slice Ao36 t501.length co36] 37 (0, 0)) (bup BK504.out) hb); have n7_ := Aside0.mk (below_step (bel HB.out) hb); clear HO_505003; clear HO_505006; clear HO601; clear BK475; clear BK476; clear BK504; clear HB; have HO_505003 := n0_; have HO_505006 := n1_; have HO601 := n2_; have HO604 := n3_; have BK475 := n4_; have BK476 := n5_; have BK504 := n6_; have HB := n7_; clear n0_ n1_ n2_ n3_ n4_ n5_ n6_ n7_; (try clear hb); (try clear hb2); (try clear hk); (try clear hi); (try clear ho0); obtain ⟨Ao98, co98, eo98⟩ := Kd.R_slice HO601.out; subst eo98; obtain ⟨Ao99, co99, eo99⟩ := Kd.R_slice HO604.out; subst eo99))
         go_loopg [14] kj24 (fun kq v14 w' => ∃ (x14_3 : Int), v14 = .int .i64 x14_3 ∧ Aside0 (reeflaw16_LeadDoes.l0 kq t599 t602 x14_3 a0_0 a0_1 a0_2 l0_3 a0_4 a0_5 l0_6 t493 t494 t495 t496 t499 t500 t501 = some r) ∧ Aside0 (kq ≤ kj24) ∧ Aside0 (Kd.R (Kd.int .i64) 3 w' w.heap.size (fun k_ => some k_ ≠ ((.slice Ao99 t602.length co99) : Value).ownBlock ∧ some k_ ≠ ((.slice Ao36 t501.length co36) : Value).ownBlock) (.slice Ao98 t599.length co98) t599) ∧ Aside0 (Kd.R (Kd.int .i64) 3 w' w.heap.size (fun k_ => some k_ ≠ ((.slice Ao98 t599.length co98) : Value).ownBlock ∧ some k_ ≠ ((.slice Ao36 t501.length co36) : Value).ownBlock) (.slice Ao99 t602.length co99) t602) ∧ Aside0 (Kd.R k39 39 w' w.heap.size (fun _ => True) (.slice Ao35 t496.length co35) t496) ∧ Aside0 (Kd.R (Kd.int .i64) 3 w' w.heap.size (fun k_ => some k_ ≠ ((.slice Ao98 t599.length co98) : Value).ownBlock ∧ some k_ ≠ ((.slice Ao99 t602.length co99) : Value).ownBlock) (.slice Ao36 t501.length co36) t501) ∧ Aside0 (w'.heap[gb475]? = some (.cells #[.int .i64 a0_0, .int .i64 a0_1, .int .i64 a0_2, (.slice A0_3 l0_3.length c0_3), .bool a0_4, .string a0_5, (.slice A0_6 l0_6.length c0_6)] 37 (0, 0))) ∧ Aside0 (w'.heap[gb476]? = some (.cells #[.int .i64 a1_0, .int .i64 a1_1, .int .i64 a1_2, (.slice A1_3 l1_3.length c1_3), .bool a1_4, .string a1_5, (.slice A1_6 l1_6.length c1_6)] 37 (0, 0))) ∧ Aside0 (w'.heap[gb504]? = some (.cells #[.int .i64 t493, .int .i64 t494, .int .i64 t495, (.slice Ao35 t496.length co35), .bool t499, .string t500, (.slice Ao36 t501.length co36)] 37 (0, 0))) ∧ Aside0 (Below w.heap.size w w'))
         case atStart => exact ⟨(0), (by first | rfl | (simp; done) | (simp [*]; done)), H', ⟨Nat.le_refl _⟩, ⟨by (with_reducible repeat (first | apply Kd.R_alloc | apply Kd.R_drewN | apply Kd.R_drew)); exact Kd.R_mono HO601.out (fun _ hk => ⟨hk.2, hk.1.2⟩)⟩, ⟨by (with_reducible repeat (first | apply Kd.R_alloc | apply Kd.R_drewN | apply Kd.R_drew)); exact Kd.R_mono HO604.out (fun _ hk => ⟨hk.2, hk.1.2⟩)⟩, ⟨Kd.R_up HO_505003.out⟩, ⟨by (with_reducible repeat (first | apply Kd.R_alloc | apply Kd.R_drewN | apply Kd.R_drew)); exact Kd.R_mono HO_505006.out (fun _ hk => ⟨hk.1.2, hk.2⟩)⟩, ⟨bup BK475.out⟩, ⟨bup BK476.out⟩, ⟨bup BK504.out⟩, ⟨bel HB.out⟩⟩
         case round =>
          clear H'
          try clear c1
          try clear p2
          try clear c3
          try clear c4
          try clear c5
          try clear c8
          try clear c9
          try clear c19
          try clear c32
          try clear c33
          try clear c34
          try clear c35
          try clear c36
          try clear c37
          try clear c40
          try clear c44
          try clear c48
          try clear c52
          try clear c87
          try clear c90
          try clear c90b0
          try clear c90b1
          try clear c90b2
          try clear c91
          try clear c92
          try clear c95
          try clear hcz93_0 hcz93_1 hcz93_2 hcz93_3 hcz93_4 hcz93_5 hcz93_6
          try clear hcz96_0 hcz96_1 hcz96_2 hcz96_3 hcz96_4 hcz96_5 hcz96_6
          try clear hfz93_0 hfz93_1 hfz93_2 hfz93_3 hfz93_4 hfz93_5 hfz93_6
          try clear hfz96_0 hfz96_1 hfz96_2 hfz96_3 hfz96_4 hfz96_5 hfz96_6
          try clear p2
          obtain ⟨x14_3, rfl, HA, HK3, HO_12, HO_13, HO_505003, HO_505006, BK475, BK476, BK504, HB⟩ := hrel
          cases gk with
          | zero => exact absurd HA.out (by simp [reeflaw16_LeadDoes.l0])
          | succ k3 =>
           have H := HA.out
           clear HA
           simp only [reeflaw16_LeadDoes.l0] at H
           by_cases c100 : x14_3 < (t599.length : Int)
           ·rw [if_pos c100] at H
            have c100b0 : decide (x14_3 < (t599.length : Int)) = true := decide_eq_true c100
            clear c100
            by_cases c101 : 0 ≤ x14_3
            ·rw [if_pos c101] at H
             have c101b0 : decide (0 ≤ x14_3) = true := decide_eq_true c101
             clear c101
             by_cases c102 : x14_3 < (t602.length : Int)
             ·rw [if_pos c102] at H
              have c102b0 : decide (x14_3 < (t602.length : Int)) = true := decide_eq_true c102
              clear c102
              by_cases c103 : (rd t599 x14_3) = (rd t602 x14_3)
              ·rw [if_pos c103] at H
               have c103b0 : ((rd t599 x14_3) == (rd t602 x14_3)) = true := beq_iff_eq.mpr c103
               have c103b1 : ((rd t599 x14_3) != (rd t602 x14_3)) = false := bne_eq_false_iff_eq.mpr c103
               clear c103
               have H' := Aside0.mk H
               clear H
               try go_wp2
               have n0_ := Aside0.mk (Kd.R_drew HO_12.out)
               have n1_ := Aside0.mk (Kd.R_drew HO_13.out)
               have n2_ := Aside0.mk (Kd.R_drew HO_505003.out)
               have n3_ := Aside0.mk (Kd.R_drew HO_505006.out)
               have n4_ := Aside0.mk (blk_drew BK475.out)
               have n5_ := Aside0.mk (blk_drew BK476.out)
               have n6_ := Aside0.mk (blk_drew BK504.out)
               have n7_ := Aside0.mk (below_drew1 HB.out)
               clear HO_12
               clear HO_13
               clear HO_505003
               clear HO_505006
               clear BK475
               clear BK476
               clear BK504
               clear HB
               have HO_12 := n0_
               have HO_13 := n1_
               have HO_505003 := n2_
               have HO_505006 := n3_
               have BK475 := n4_
               have BK476 := n5_
               have BK504 := n6_
               have HB := n7_
               clear n0_ n1_ n2_ n3_ n4_ n5_ n6_ n7_
               have p605 : 0 ≤ (x14_3 : Int) := of_decide_eq_true (by first | (with_reducible assumption) | assumption)
               have q605 : x14_3 < (t599.length : Int) := of_decide_eq_true (by first | (with_reducible assumption) | assumption)
               obtain ⟨ad605, e605, hx605_0⟩ := Kd.at_int (Kd.R_reads' HO_12.out).2.2 x14_3 p605 q605
               cases e605
               replace p605 := eq_true p605
               replace q605 := eq_true q605
               have p606 : 0 ≤ (x14_3 : Int) := of_decide_eq_true (by first | (with_reducible assumption) | assumption)
               have q606 : x14_3 < (t602.length : Int) := of_decide_eq_true (by first | (with_reducible assumption) | assumption)
               obtain ⟨ad606, e606, hx606_0⟩ := Kd.at_int (Kd.R_reads' HO_13.out).2.2 x14_3 p606 q606
               cases e606
               replace p606 := eq_true p606
               replace q606 := eq_true q606
               refine start_ (n := 9) (S := fun w' => w'.cell? (ad605.add (x14_3).toNat) = some (.int .i64 (rd t599 x14_3)) ∧ w'.cell? (ad606.add (x14_3).toNat) = some (.int .i64 (rd t602 x14_3))) (ds := []) #[false, false, false, false, false, false, false, false, false] (by kernel_rfl) rfl rfl ⟨hx605_0, hx606_0⟩ (fun hHeld => ?_); refine with_tabW reeflaw16_LeadDoes.tab15 reeflaw16_LeadDoes.bits15 (fun HT_ HW_ => ?_)
               generalize wr.drew = w104 at HO_12 HO_13 HO_505003 HO_505006 BK475 BK476 BK504 HB hx605_0 hx606_0 hHeld ⊢
               refine pure_ (i := 0) (N := some 97) (v := ?_) (a' := ?_) #[true, false, false, false, false, false, false, false, false] rfl rfl (any_of HT_.out (by kernel_rfl)) (fun _ _ _ h => h) (Or.inl ⟨by rfl, ?_⟩) ?_ ?_
               rotate_left
               ·intro w'
                go_simp
                with_reducible rfl
               rotate_left
               ·simp only [Act.put, List.setIfInBounds_toArray, List.set_cons_zero, List.set_cons_succ, i64_w, i32_w]
                rfl
               refine pure_ (i := 1) (N := some 98) (v := ?_) (a' := ?_) #[true, true, false, false, false, false, false, false, false] rfl rfl (any_of HT_.out (by kernel_rfl)) (fun _ _ _ h => h) (Or.inl ⟨by rfl, ?_⟩) ?_ ?_
               rotate_left
               ·intro w'
                go_simp
                with_reducible rfl
               rotate_left
               ·simp only [Act.put, List.setIfInBounds_toArray, List.set_cons_zero, List.set_cons_succ, i64_w, i32_w]
                rfl
               refine pure_ (i := 2) (N := some 99) (v := ?_) (a' := ?_) #[true, true, true, false, false, false, false, false, false] rfl rfl (any_of HT_.out (by kernel_rfl)) (fun _ _ _ h => h) (Or.inl ⟨by rfl, ?_⟩) ?_ ?_
               rotate_left
               ·intro w'
                go_simp
                with_reducible rfl
               rotate_left
               ·simp only [Act.put, List.setIfInBounds_toArray, List.set_cons_zero, List.set_cons_succ, i64_w, i32_w]
                rfl
               refine pure_ (i := 4) (N := some 101) (v := ?_) (a' := ?_) #[true, true, true, false, true, false, false, false, false] rfl rfl (any_of HT_.out (by kernel_rfl)) (fun _ _ _ h => h) (Or.inl ⟨by rfl, ?_⟩) ?_ ?_
               rotate_left
               ·intro w'
                go_simp
                with_reducible rfl
               rotate_left
               ·simp only [Act.put, List.setIfInBounds_toArray, List.set_cons_zero, List.set_cons_succ, i64_w, i32_w]
                rfl
               refine pure_ (i := 5) (N := some 102) (v := ?_) (a' := ?_) #[true, true, true, false, true, true, false, false, false] rfl rfl (any_of HT_.out (by kernel_rfl)) (fun _ _ _ h => h) (Or.inl ⟨by rfl, ?_⟩) ?_ ?_
               rotate_left
               ·intro w'
                go_simp
                with_reducible rfl
               rotate_left
               ·simp only [Act.put, List.setIfInBounds_toArray, List.set_cons_zero, List.set_cons_succ, i64_w, i32_w]
                rfl
               refine pure_ (i := 6) (N := some 103) (v := ?_) (a' := ?_) #[true, true, true, false, true, true, true, false, false] rfl rfl (any_of HT_.out (by kernel_rfl)) (fun _ _ _ h => h) (Or.inl ⟨by rfl, ?_⟩) ?_ ?_
               rotate_left
               ·intro w'
                go_simp
                with_reducible rfl
               rotate_left
               ·simp only [Act.put, List.setIfInBounds_toArray, List.set_cons_zero, List.set_cons_succ, i64_w, i32_w]
                rfl
               refine take_ (i := 3) (N := some 100) (v := ?_) (a' := ?_) #[true, true, true, true, true, true, true, false, false] rfl rfl (take_ofW HT_.out HW_.out (by kernel_rfl)) (fun _ _ _ h => h) (Or.inl ⟨by rfl, ?_⟩) hHeld ?_ ?_
               rotate_left
               ·rintro w' ⟨s0, s1⟩
                go_simp
                with_reducible rfl
               rotate_left
               ·simp only [Act.put, List.setIfInBounds_toArray, List.set_cons_zero, List.set_cons_succ, i64_w, i32_w]
                rfl
               refine take_ (i := 7) (N := some 104) (v := ?_) (a' := ?_) #[true, true, true, true, true, true, true, true, false] rfl rfl (take_ofW HT_.out HW_.out (by kernel_rfl)) (fun _ _ _ h => h) (Or.inl ⟨by rfl, ?_⟩) hHeld ?_ ?_
               rotate_left
               ·rintro w' ⟨s0, s1⟩
                go_simp
                with_reducible rfl
               rotate_left
               ·simp only [Act.put, List.setIfInBounds_toArray, List.set_cons_zero, List.set_cons_succ, i64_w, i32_w]
                rfl
               refine pure_ (i := 8) (N := some 105) (v := ?_) (a' := ?_) #[true, true, true, true, true, true, true, true, true] rfl rfl (any_of HT_.out (by kernel_rfl)) (fun _ _ _ h => h) (Or.inl ⟨by rfl, ?_⟩) ?_ ?_
               rotate_left
               ·intro w'
                go_simp
                with_reducible rfl
               rotate_left
               ·simp only [Act.put, List.setIfInBounds_toArray, List.set_cons_zero, List.set_cons_succ, i64_w, i32_w]
                rfl
               refine done_ (done_of HT_.out (by kernel_rfl)) ?_
               try go_wp2
               go_roundg k3
               case measure => have := HJ5.out; have := HJ24.out; have := HK3.out; omega
               case rel => exact ⟨(wrap64 (x14_3 + 1)), (by first | rfl | (simp; done) | (simp [*]; done)), H', ⟨by have := HJ5.out; have := HJ24.out; have := HK3.out; omega⟩, ⟨Kd.R_up HO_12.out⟩, ⟨Kd.R_up HO_13.out⟩, ⟨Kd.R_up HO_505003.out⟩, ⟨Kd.R_up HO_505006.out⟩, ⟨bup BK475.out⟩, ⟨bup BK476.out⟩, ⟨bup BK504.out⟩, ⟨bel HB.out⟩⟩
              ·rw [if_neg c103] at H
               exact absurd H (by simp)
             ·rw [if_neg c102] at H
              exact absurd H (by simp)
            ·rw [if_neg c101] at H
             exact absurd H (by simp)
           ·rw [if_neg c100] at H
            have c100b0 : decide (x14_3 < (t599.length : Int)) = false := decide_eq_false c100
            clear c100
            replace H := Option.bind_eq_some_iff.mp H
            obtain ⟨t607, A1050, H⟩ := H
            replace H : (if t607 = true then ((reeflaw16_awake.f k3).bind fun t608 => (some t608)) else (none)) = some r := H
            have A105 := Aside0.mk A1050
            clear A1050
            by_cases c106 : t607 = true
            ·subst c106
             have H1 : ((reeflaw16_awake.f k3).bind fun t608 => (some t608)) = some r := by rw [if_pos rfl] at H; exact H
             clear H
             have H := H1
             clear H1
             replace H := Option.bind_eq_some_iff.mp H
             obtain ⟨t608, A1070, H⟩ := H
             replace H : (some t608) = some r := H
             have A107 := Aside0.mk A1070
             clear A1070
             obtain rfl := Option.some.inj H
             have hnb108 := NB504_475.out
             have hnc108 := NB475_504.out
             have hnb109 := NB504_476.out
             have hnc109 := NB476_504.out
             obtain ⟨hcz110_0, hcz110_1, hcz110_2, hcz110_3, hcz110_4, hcz110_5, hcz110_6⟩ := blkC7 wr gb504 (.int .i64 t493) (.int .i64 t494) (.int .i64 t495) (.slice Ao35 t496.length co35) (.bool t499) (.string t500) (.slice Ao36 t501.length co36) BK504.out
             obtain ⟨hfz110_0, hfz110_1, hfz110_2, hfz110_3, hfz110_4, hfz110_5, hfz110_6⟩ := blkF7 BK504.out
             have hnb111 := NB475_476.out
             have hnc111 := NB476_475.out
             obtain ⟨hcz112_0, hcz112_1, hcz112_2, hcz112_3, hcz112_4, hcz112_5, hcz112_6⟩ := blkC7 wr gb475 (.int .i64 a0_0) (.int .i64 a0_1) (.int .i64 a0_2) (.slice A0_3 l0_3.length c0_3) (.bool a0_4) (.string a0_5) (.slice A0_6 l0_6.length c0_6) BK475.out
             obtain ⟨hfz112_0, hfz112_1, hfz112_2, hfz112_3, hfz112_4, hfz112_5, hfz112_6⟩ := blkF7 BK475.out
             go_wp2_with (first | ((with_reducible refine gate_callee (f := 19) rfl ?_); refine goesL_ (some 108) rfl rfl Try.func19 (by kernel_rfl) rfl #[.agg #[.int .i64 t493, .int .i64 t494, .int .i64 t495, .slice Ao35 t496.length co35, .bool t499, .string t500, .slice Ao36 t501.length co36], .agg #[.int .i64 a0_0, .int .i64 a0_1, .int .i64 a0_2, .slice A0_3 l0_3.length c0_3, .bool a0_4, .string a0_5, .slice A0_6 l0_6.length c0_6]] rfl (by (try simp only [List.map_toArray, List.map_cons, List.map_nil]); first | done | rfl | (simp only [List.length_drop, List.length_take]; rfl)) ?_; (with_reducible refine (reefref16_Same.calls k3 t493 t494 t495 _ _ t496 t499 t500 _ _ t501 a0_0 a0_1 a0_2 _ _ l0_3 a0_4 a0_5 _ _ l0_6 true _ ?side1 ?side2 ?side3 ?side4 ?side5 ?side6 ?side7 ?side8 A105.out).mono ?_); (case side1 => repeat (first | exact (Kd.R_reads' HO_505003.out).2.2 | (with_reducible refine Kd.C_alloc ?_ _) | (with_reducible refine Kd.C_drewN ?_ _) | (with_reducible refine Kd.C_drew ?_))); (case side2 => exact (Kd.R_reads' HO_505003.out).2.1); (case side3 => repeat (first | exact (Kd.R_reads' HO_505006.out).2.2 | (with_reducible refine Kd.C_alloc ?_ _) | (with_reducible refine Kd.C_drewN ?_ _) | (with_reducible refine Kd.C_drew ?_))); (case side4 => exact (Kd.R_reads' HO_505006.out).2.1); (case side5 => exact Kd.C_up (Kd.C_below HR0_3.out HB.out)); (case side6 => exact HC0_3.out); (case side7 => exact Kd.C_up (Kd.C_below HR0_6.out HB.out)); (case side8 => exact HC0_6.out); rintro e w113 ⟨rfl, hb⟩; refine ⟨_, rfl, ?_⟩; have n0_ := Aside0.mk (Kd.R_below (Kd.R_up HO_12.out) hb); have n1_ := Aside0.mk (Kd.R_below (Kd.R_up HO_13.out) hb); have n2_ := Aside0.mk (Kd.R_below (Kd.R_up HO_505003.out) hb); have n3_ := Aside0.mk (Kd.R_below (Kd.R_up HO_505006.out) hb); have n4_ := Aside0.mk (blk_below (g := gb475) (o := .cells #[.int .i64 a0_0, .int .i64 a0_1, .int .i64 a0_2, .slice A0_3 l0_3.length c0_3, .bool a0_4, .string a0_5, .slice A0_6 l0_6.length c0_6] 37 (0, 0)) (bup BK475.out) hb); have n5_ := Aside0.mk (blk_below (g := gb476) (o := .cells #[.int .i64 a1_0, .int .i64 a1_1, .int .i64 a1_2, .slice A1_3 l1_3.length c1_3, .bool a1_4, .string a1_5, .slice A1_6 l1_6.length c1_6] 37 (0, 0)) (bup BK476.out) hb); have n6_ := Aside0.mk (blk_below (g := gb504) (o := .cells #[.int .i64 t493, .int .i64 t494, .int .i64 t495, .slice Ao35 t496.length co35, .bool t499, .string t500, .slice Ao36 t501.length co36] 37 (0, 0)) (bup BK504.out) hb); have n7_ := Aside0.mk (below_step (bel HB.out) hb); clear HO_12; clear HO_13; clear HO_505003; clear HO_505006; clear BK475; clear BK476; clear BK504; clear HB; have HO_12 := n0_; have HO_13 := n1_; have HO_505003 := n2_; have HO_505006 := n3_; have BK475 := n4_; have BK476 := n5_; have BK504 := n6_; have HB := n7_; clear n0_ n1_ n2_ n3_ n4_ n5_ n6_ n7_; (try clear hb); (try clear hb2); (try clear hk); (try clear hi)) | (go_at_call 13; (with_reducible refine (reeflaw16_awake.calls k3  t608 _ A107.out).mono ?_); rintro e w114 ⟨rfl, hb⟩; have n0_ := Aside0.mk (Kd.R_below (Kd.R_up HO_12.out) hb); have n1_ := Aside0.mk (Kd.R_below (Kd.R_up HO_13.out) hb); have n2_ := Aside0.mk (Kd.R_below (Kd.R_up HO_505003.out) hb); have n3_ := Aside0.mk (Kd.R_below (Kd.R_up HO_505006.out) hb); have n4_ := Aside0.mk (blk_below (g := gb475) (o := .cells #[.int .i64 a0_0, .int .i64 a0_1, .int .i64 a0_2, .slice A0_3 l0_3.length c0_3, .bool a0_4, .string a0_5, .slice A0_6 l0_6.length c0_6] 37 (0, 0)) (bup BK475.out) hb); have n5_ := Aside0.mk (blk_below (g := gb476) (o := .cells #[.int .i64 a1_0, .int .i64 a1_1, .int .i64 a1_2, .slice A1_3 l1_3.length c1_3, .bool a1_4, .string a1_5, .slice A1_6 l1_6.length c1_6] 37 (0, 0)) (bup BK476.out) hb); have n6_ := Aside0.mk (blk_below (g := gb504) (o := .cells #[.int .i64 t493, .int .i64 t494, .int .i64 t495, .slice Ao35 t496.length co35, .bool t499, .string t500, .slice Ao36 t501.length co36] 37 (0, 0)) (bup BK504.out) hb); have n7_ := Aside0.mk (below_step (bel HB.out) hb); clear HO_12; clear HO_13; clear HO_505003; clear HO_505006; clear BK475; clear BK476; clear BK504; clear HB; have HO_12 := n0_; have HO_13 := n1_; have HO_505003 := n2_; have HO_505006 := n3_; have BK475 := n4_; have BK476 := n5_; have BK504 := n6_; have HB := n7_; clear n0_ n1_ n2_ n3_ n4_ n5_ n6_ n7_; (try clear hb); (try clear hb2); (try clear hk); (try clear hi)))
             go_ret
             exact ⟨by first | rfl | (simp [errW_none, errW_some] <;> rfl) | (simp [*, errW_none, errW_some] <;> rfl), by repeat (first | (with_reducible first | exact HB.out | apply below_alloc | apply pw_below_drewN | apply below_drew1 | refine below_set ?_ (Aside0.out ‹_›)) | exact HB.out)⟩
            ·replace c106 := Bool.eq_false_iff.mpr c106
             subst c106
             have H1 : (none) = some r := by rw [if_neg (show ¬ (false = true) by decide)] at H; exact H
             clear H
             have H := H1
             clear H1
             exact absurd H (by simp)
        ·rw [if_neg c90] at H
         exact absurd H (by simp)
    ·replace c23 := Bool.eq_false_iff.mpr c23
     subst c23
     have H1 : ((reeflaw16_awake.f kj5).bind fun t492 => (some t492)) = some r := by rw [if_neg (show ¬ (false = true) by decide)] at H; exact H
     clear H
     have H := H1
     clear H1
     replace H := Option.bind_eq_some_iff.mp H
     obtain ⟨t492, A1150, H⟩ := H
     replace H : (some t492) = some r := H
     have A115 := Aside0.mk A1150
     clear A1150
     obtain rfl := Option.some.inj H
     have hnb116 := NB475_476.out
     have hnc116 := NB476_475.out
     obtain ⟨hcz117_0, hcz117_1, hcz117_2, hcz117_3, hcz117_4, hcz117_5, hcz117_6⟩ := blkC7 wc gb475 (.int .i64 a0_0) (.int .i64 a0_1) (.int .i64 a0_2) (.slice A0_3 l0_3.length c0_3) (.bool a0_4) (.string a0_5) (.slice A0_6 l0_6.length c0_6) BK475.out
     obtain ⟨hfz117_0, hfz117_1, hfz117_2, hfz117_3, hfz117_4, hfz117_5, hfz117_6⟩ := blkF7 BK475.out
     go_wp2_with (first | ((with_reducible refine gate_callee (f := 17) rfl ?_); refine goesL_ (some 30) rfl rfl Try.func17 (by kernel_rfl) rfl #[.agg #[.int .i64 a0_0, .int .i64 a0_1, .int .i64 a0_2, .slice A0_3 l0_3.length c0_3, .bool a0_4, .string a0_5, .slice A0_6 l0_6.length c0_6]] rfl (by (try simp only [List.map_toArray, List.map_cons, List.map_nil]); first | done | rfl | (simp only [List.length_drop, List.length_take]; rfl)) ?_; (with_reducible refine (reefref16_Rises.calls kj5 a0_0 a0_1 a0_2 _ _ l0_3 a0_4 a0_5 _ _ l0_6 false _ ?side1 ?side2 ?side3 ?side4 A22.out).mono ?_); (case side1 => exact Kd.C_up (Kd.C_below HR0_3.out HB.out)); (case side2 => exact HC0_3.out); (case side3 => exact Kd.C_up (Kd.C_below HR0_6.out HB.out)); (case side4 => exact HC0_6.out); rintro e w118 ⟨rfl, hb⟩; refine ⟨_, rfl, ?_⟩; have n0_ := Aside0.mk (blk_below (g := gb475) (o := .cells #[.int .i64 a0_0, .int .i64 a0_1, .int .i64 a0_2, .slice A0_3 l0_3.length c0_3, .bool a0_4, .string a0_5, .slice A0_6 l0_6.length c0_6] 37 (0, 0)) (bup BK475.out) hb); have n1_ := Aside0.mk (blk_below (g := gb476) (o := .cells #[.int .i64 a1_0, .int .i64 a1_1, .int .i64 a1_2, .slice A1_3 l1_3.length c1_3, .bool a1_4, .string a1_5, .slice A1_6 l1_6.length c1_6] 37 (0, 0)) (bup BK476.out) hb); have n2_ := Aside0.mk (below_step (bel HB.out) hb); clear BK475; clear BK476; clear HB; have BK475 := n0_; have BK476 := n1_; have HB := n2_; clear n0_ n1_ n2_; (try clear hb); (try clear hb2); (try clear hk); (try clear hi)) | ((with_reducible refine gate_callee (f := 13) rfl ?_); refine goesL_ (some 32) rfl rfl Try.func13 (by kernel_rfl) rfl #[] rfl (by (try simp only [List.map_toArray, List.map_cons, List.map_nil]); first | done | rfl | (simp only [List.length_drop, List.length_take]; rfl)) ?_; (with_reducible refine (reeflaw16_awake.calls kj5  t492 _ A115.out).mono ?_); rintro e w119 ⟨rfl, hb⟩; refine ⟨_, rfl, ?_⟩; have n0_ := Aside0.mk (blk_below (g := gb475) (o := .cells #[.int .i64 a0_0, .int .i64 a0_1, .int .i64 a0_2, .slice A0_3 l0_3.length c0_3, .bool a0_4, .string a0_5, .slice A0_6 l0_6.length c0_6] 37 (0, 0)) (bup BK475.out) hb); have n1_ := Aside0.mk (blk_below (g := gb476) (o := .cells #[.int .i64 a1_0, .int .i64 a1_1, .int .i64 a1_2, .slice A1_3 l1_3.length c1_3, .bool a1_4, .string a1_5, .slice A1_6 l1_6.length c1_6] 37 (0, 0)) (bup BK476.out) hb); have n2_ := Aside0.mk (below_step (bel HB.out) hb); clear BK475; clear BK476; clear HB; have BK475 := n0_; have BK476 := n1_; have HB := n2_; clear n0_ n1_ n2_; (try clear hb); (try clear hb2); (try clear hk); (try clear hi)))
     go_ret
     exact ⟨by first | rfl | (simp [errW_none, errW_some] <;> rfl) | (simp [*, errW_none, errW_some] <;> rfl), by repeat (first | (with_reducible first | exact HB.out | apply below_alloc | apply pw_below_drewN | apply below_drew1 | refine below_set ?_ (Aside0.out ‹_›)) | exact HB.out)⟩
end Go.Proofs.Ytpdpjcpmpppadaa.P

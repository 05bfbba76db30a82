/- Fields are written as the document writes them. -/
import Derived.Test.YtcheinjlgojepaaDoorP26
import Derived.Test.YtcheinjlgojepaaDoorPureWrite
import Derived.Test.YtcheinjlgojepaaDoorPureAwake
import Derived.Test.YtcheinjlgojepaaDoorOpsU
namespace Go.Proofs.YtcheinjlgojepaaDoor.Pure
open Go.RowKit Go.Proofs.YtcheinjlgojepaaDoor.P Go.Proofs.YtcheinjlgojepaaDoorW.PrintWords Go.Proofs.YtcheinjlgojepaaDoorW.PrintLast Go.Proofs.YtcheinjlgojepaaDoorW.PrintMore
set_option linter.unusedVariables false
theorem le_sum : ∀ {l : List Nat} {a : Nat}, a ∈ l → a ≤ l.sum := by
  intro l
  induction l with
  | nil => intro a h; cases h
  | cons b l ih =>
    intro a h
    rw [List.sum_cons]
    rcases List.mem_cons.1 h with rfl | h
    · omega
    · have := ih h; omega
theorem bulk_wt (l : List S29) : l.length + wt l ≤ 11 * (B26 l) := by
  have h : ∀ l : List S29, l.length + wt l ≤ 11 * (l.map B29).sum := by
    intro l
    induction l with
    | nil => simp [wt]
    | cons f l ih =>
      unfold wt at ih ⊢
      rw [List.map_cons, List.sum_cons, List.map_cons, List.sum_cons, List.length_cons]
      have : B29 f = 1 + (1 + ((f.f2.size + 1) + 1)) + 1 := rfl
      omega
  have := h l
  have e : B26 l = (l.map B29).sum + 1 := rfl
  omega
theorem codeWrites_loop (l : List S29) (hl : l.length < 9223372036854775807) (hg : ∀ f ∈ l, G29 f) (hw : wt l < 140737488355328) : ∀ (n i : Nat), i + n = l.length → Ev (fun k => reeflaw02_CodeWrites.l0 k l (i : Int)) true := by
  intro n
  induction n with
  | zero =>
    intro i hi
    refine Ev.step (f := fun k => (code_Fields.f k l).bind fun t280 => ((reefref02_Fields.f k l).bind fun t283 => (if (strOfNums t280).toList = (strOfNums t283).toList then ((reeflaw02_awake.f k).bind fun t286 => (some t286)) else (none)))) (fun k => ?_) ?_
    · simp only [reeflaw02_CodeWrites.l0]
      rw [if_neg (by omega)]
    · refine Ev.bind (cfields_ev l hl hg hw) (Ev.bind (rfields_ev l hl hg hw) ?_)
      exact Ev.congr (fun k => by rw [if_pos rfl]) (Ev.bind awake_evr (Ev.now _))
  | succ n ih =>
    intro i hi
    have hil : i < l.length := by omega
    have e := rd_at l i hil
    have g := hg _ (List.getElem_mem hil)
    have hb : 10 + l[i].f2.size ≤ wt l := by
      unfold wt
      have hm : (10 + l[i].f2.size) ∈ l.map (fun f => 10 + f.f2.size) := List.mem_map.2 ⟨_, List.getElem_mem hil, rfl⟩
      exact le_sum hm
    refine Ev.step (f := fun k => (code_Fit.f k l[i].f0 l[i].f1 l[i].f2 l[i].f3).bind fun t288 => ((some (fitV l[i])).bind fun t290 => (if (t288 != t290) = true then none else ((code_Size.f k l[i].f0 l[i].f1 l[i].f2 l[i].f3).bind fun t292 => ((reefref02_Size.f k l[i].f0 l[i].f1 l[i].f2 l[i].f3).bind fun t294 => (if t292 = t294 then (reeflaw02_CodeWrites.l0 k l ((i + 1 : Nat) : Int)) else none)))))) (fun k => ?_) ?_
    · simp only [reeflaw02_CodeWrites.l0]
      rw [if_pos (by omega), if_pos (by omega), e, wrap_s i (by omega), rfit_eq]
    · refine Ev.bind (cfit_ev _) ?_
      refine Ev.congr (f := fun k => (code_Size.f k l[i].f0 l[i].f1 l[i].f2 l[i].f3).bind fun t292 => ((reefref02_Size.f k l[i].f0 l[i].f1 l[i].f2 l[i].f3).bind fun t294 => (if t292 = t294 then (reeflaw02_CodeWrites.l0 k l ((i + 1 : Nat) : Int)) else none))) (fun k => ?_) ?_
      · rw [Option.bind_some, if_neg (by simp)]
      · refine Ev.bind (csize_ev _ g (by omega)) (Ev.bind (rsize_ev _ g (by omega)) ?_)
        exact Ev.congr (fun k => by rw [if_pos rfl]) (ih (i + 1) (by omega))
/-- The law of CodeWrites. -/
theorem codeWrites_ev (l : List S29) (g : G26 l) (b : B26 l ≤ 1048576) : Ev (fun k => reeflaw02_CodeWrites.f k l) true := by
  have h := bulk_wt l
  exact codeWrites_loop l (by omega) g.2.2 (by omega) l.length 0 (by omega)
end Go.Proofs.YtcheinjlgojepaaDoor.Pure

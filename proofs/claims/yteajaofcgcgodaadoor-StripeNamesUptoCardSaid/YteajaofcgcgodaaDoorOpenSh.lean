/- The wrap of a laid row with a condition, with the world's shape; from what the row lays to what the walk of StripeNames asks. -/
import Derived.Stop.LaidErr
import Derived.ShapedOpen
import Derived.LaidLaws
import Derived.MakeChecks
import Derived.Test.YteajaofcgcgodaaDoorRows
import Derived.Test.YteajaofcgcgodaaDoorOpenU
import Derived.Test.YteajaofcgcgodaaDoorNames
namespace Go.Proofs.YteajaofcgcgodaaDoor.OpenU
open Go.RowKit Go.ChangeShapes Go.WideShapes Go.Proofs.YteajaofcgcgodaaDoorW.PrintWords Go.Proofs.YteajaofcgcgodaaDoor.Open
open Go.Proofs.YteajaofcgcgodaaDoor.OpenU
section
variable {H : Type} {enc : TypeId × Value → H}
/-- The wrap for a row with a condition, whose program has laid variables. -/
theorem returnsInHanded_of_cond_sh {a : Assume} {C : Checked} {os : Os} {f : FuncId} {fn : Func} {s : OpenSpec} {k : (H : Type) → List (DataW H) → Bool} (hk : s.cond = some k) {F : Stop.Interp} {conds : List PathCond} {apart fresh handsOn again : Bool} {X : World → Array Value → Prop}
    (hX : ∀ (w w' : World) (args : Array Value), w.heap = w'.heap → X w args → X w' args)
    (own : ownKnob C.prog.godebug = none) (started : os.Started) (noInit : C.prog.inits.idxOf? f = none) (hfn : C.prog.funcs[f]? = some fn)
    (witness : ∃ (w : World) (tape : Tape) (i : Input), w.os = os ∧ (w.forCall tape i).Shaped C.prog ∧ i.vars = [] ∧ Input.okWide C.prog (w.forCall tape i) .any w.heap.size f i ∧
      ((s.pre enc C.prog fn conds apart (w.forCall tape i).memory i.args ∧ X (w.forCall tape i).memory i.args) ∧ sizedMet enc C.prog fn s apart (w.forCall tape i).memory i.args) ∧ a.holds C.prog (lone (Frame.enter C.prog f i.args .normal) [] (w.forCall tape i)))
    (contract : ∀ (W : World) (base : Nat) (args : Array Value) (ds gs : List (DataW H)) (before : List MemPlace),
      (∀ (j : Nat) t v, fn.params[j]? = some t → args[j]? = some v → Value.okWide C.prog W .any base t v) →
      DataW.Whole enc C.prog fn.params.toList s.vars apart W args.toList ds gs before →
      conds.all (PathCond.test C.prog ⟨fn.params.toList, ds, s.bare.plain.varTypes C.prog, gs⟩) = true → k H (ds ++ gs) = true →
      (DataW.weightsEach C.prog (fn.params.toList ++ s.bare.plain.varTypes C.prog) (ds ++ gs)).all (· ≤ reachBytes) = true → X W args → W.ShapedOpen C.prog →
      a.holds C.prog (lone (Frame.enter C.prog f args .normal) [] W) →
      Calls C.prog f args W fun e W' => ∃ v, e = .returned v ∧ (s.at F).post enc C.prog fn apart fresh handsOn again W args v W') :
    ReturnsInHanded a C os f .any (fun w args => (s.pre enc C.prog fn conds apart w args ∧ X w args) ∧ sizedMet enc C.prog fn s apart w args) ((s.at F).post enc C.prog fn apart fresh handsOn again) := by
  refine returnsInHanded_of_calls own started noInit witness ?_
  intro w tape i _ hshp _ hok hpre hholds
  obtain ⟨_, _, _, fn', hfn', _, _, _, _, hval⟩ := hok
  have e : fn' = fn := Option.some.inj (hfn'.symm.trans hfn)
  subst e
  obtain ⟨⟨hp, hx⟩, hz⟩ := hpre
  obtain ⟨ds, gs, before, hw, hc, hkk⟩ := (OpenSpec.pre_some hk conds apart _ _).1 hp
  have hw' := DataW.Whole.of_heap (w' := w.forCall tape i) (by rfl) hw
  refine (contract (w.forCall tape i) w.heap.size i.args ds gs before hval hw' hc hkk (hz.weights hw) (hX _ _ _ (by rfl) hx) hshp hholds).mono fun e W' ⟨v, he, hp⟩ => ?_
  subst he
  exact ChangeSpec.post_blind hp
end
end Go.Proofs.YteajaofcgcgodaaDoor.OpenU
namespace Go.Proofs.YteajaofcgcgodaaDoor.P
open Go.RowKit Go.Proofs
theorem gES : Tryd.prog.globalNamed "strconv.ErrSyntax" = some 1 := by kernel_rfl
theorem gER : Tryd.prog.globalNamed "strconv.ErrRange" = some 2 := by kernel_rfl
theorem gESt : (Tryd.prog.globals[1]?).map (·.type) = some 68 := by kernel_rfl
theorem gERt : (Tryd.prog.globals[2]?).map (·.type) = some 68 := by kernel_rfl
theorem gPT : Tryd.prog.globalNamed "internal/strconv.uint64pow10" = some 3 := by kernel_rfl
theorem gPTt : (Tryd.prog.globals[3]?).map (·.type) = some 106 := by kernel_rfl
theorem cells104 : Tryd.prog.cellsOf 104 = 1 := by kernel_rfl
theorem cells9 : Tryd.prog.cellsOf 9 = 1 := by kernel_rfl
theorem star102 : "*" ++ "errors.errorString" = "*errors.errorString" := by decide
theorem row102 (u : TypeId) (h : Tryd.prog.typeName? 3 u = some "*errors.errorString") : u = 102 :=
  typeName_ptr_named (nm := "errors.errorString") (by rw [star102]; kernel_rfl) (by kernel_rfl) (by decide) u (by rw [star102]; exact h)
theorem LT_of_laid {W : World} (h : laidMetH Tryd.prog Rows.stripeNamesUptoRow.laid W) (hsh : W.ShapedOpen Tryd.prog) : LT W := by
  rw [MakeChecks.laidMetH_plain _ _ _ (by kernel_rfl)] at h
  have h : laidMet Tryd.prog [("math/bits.deBruijn32tab", Rows.laid_math_bits_deBruijn32tab), ("math/bits.deBruijn64tab", Rows.laid_math_bits_deBruijn64tab), ("internal/strconv.uint64pow10", Rows.laid_internal_strconv_uint64pow10), ("strconv.ErrRange", Rows.laid_strconv_ErrRange), ("strconv.ErrSyntax", Rows.laid_strconv_ErrSyntax)] W := h
  have hp := h.tail.tail
  have hr := hp.tail
  have he := hr.tail
  obtain ⟨a1, s1, hv1, -, -, -⟩ := laid_sentinel he gES gESt Tryd.underlying68 row102 Tryd.underlying102 Tryd.underlying104 rfl rfl Tryd.underlying9 cells104 cells9
  obtain ⟨a2, s2, hv2, -, -, -⟩ := laid_sentinel hr gER gERt Tryd.underlying68 row102 Tryd.underlying102 Tryd.underlying104 rfl rfl Tryd.underlying9 cells104 cells9
  refine ⟨Tryd.laysM145.s1_3 W hsh, ⟨_, (by have h0 := World.var?_cell gES hv1 0; simpa using h0), .inr ⟨_, _, rfl⟩⟩, ⟨_, (by have h0 := World.var?_cell gER hv2 0; simpa using h0), .inr ⟨_, _, rfl⟩⟩, ?_⟩
  exact Lib.tabIs_of_head gPT gPTt Tryd.underlying106 Tryd.underlying37 (by kernel_rfl) (by kernel_rfl) hp
end Go.Proofs.YteajaofcgcgodaaDoor.P

/- THE CLOSED LAW TallyNames IS TRUE. No condition beside the given row's own. (Own work.) -/
import Derived.Test.YthiiejahphkgnaaNBase
set_option linter.unusedVariables false
namespace Go.Proofs.Ythiiejahphkgnaa.tallyNames
open Go.ChangeShapes Go.WideShapes Go.ChangeAt Go.RowKit
open Go.ChangeMaps (open_string shut_string)
open Go.AM (row_calls)

theorem own : ownKnob Try.prog.godebug = none := by kernel_rfl
theorem walk (W : World) : Calls Try.prog 8 #[] W fun e W' => e = .returned (.bool true) ∧ Below W.heap.size W W' := by
  obtain ⟨n, b, hf⟩ := (Go.AM.T.TallyNames_spec).top
  exact row_calls (args := []) progOk hf trivial
set_option maxRecDepth 100000 in
theorem lifted (os : Os) (started : os.Started) (H : Type) (enc : TypeId × Value → H) :
    ReturnsInHanded {} Try.checked os 8 .any (Rows.tallyNamesSpec.pre6 enc Try.prog Try.f8 Rows.tallyNamesRow.domain false) (Rows.tallyNamesSpec.post enc Try.prog Try.f8 false true false false) := by
  refine returnsInHanded_of_change_sized (C := Try.checked) own started (by kernel_rfl) Try.func8
    (ChangeSpec.witness6 (enc := enc) (C := Try.checked) false ⟨#[], #[], []⟩ 8 (by kernel_rfl) (by kernel_rfl) (by kernel_rfl) (by kernel_rfl)) ?_
  intro W base args ds gs before hval0 hW hcnd hsz0 _
  have hW' := hW
  obtain ⟨p, q, hA0, hV, rfl, hfz, hnd⟩ := hW
  have hA : DataW.TrodAll enc Try.prog W 0 (fun _ => true) true Try.f8.params.toList args.toList ds p := hA0
  rw [Try.params8] at hA
  obtain ⟨rfl, rfl, rfl⟩ := trodAll_none hA
  obtain ⟨rfl, rfl⟩ := trodVars_none hV
  refine (walk W).mono fun e W' ⟨he, bel⟩ => ?_
  subst he
  exact ⟨_, rfl, _, _, _, [], _, [], hW', trodAll_mk1 (shut_bool Try.underlying4 _), trodAll_mk0, rfl, bel.frame _, fun h => by cases h⟩
theorem over : Rows.tallyNamesRow.holds Try.pinned (OpenSpec.ofChange Rows.tallyNamesSpec) :=
  OpenClaim.holds_of_wide 8 Try.f8 rfl rfl rfl rfl rfl rfl rfl ⟨rfl, rfl, rfl, rfl, rfl⟩ rfl rfl rfl rfl rfl (by kernel_rfl) Try.func8 (by kernel_rfl)
    (of_decide_eq_true (by kernel_rfl)) (by unfold Func.isWrapper; first | (rw [if_pos (by decide +kernel)]; kernel_rfl) | (rw [if_neg (by decide +kernel)]; exact ⟨rfl, rfl⟩))
    (fun os started H enc _ => lifted os started H enc)
theorem proved : Rows.TallyNamesSaid := over
#print axioms proved
end Go.Proofs.Ythiiejahphkgnaa.tallyNames
namespace Go.Proofs.Ythiiejahphkgnaa
/-- The row, under a short name, for the claim. -/
theorem tallyNames_holds : Rows.TallyNamesSaid := tallyNames.proved
end Go.Proofs.Ythiiejahphkgnaa

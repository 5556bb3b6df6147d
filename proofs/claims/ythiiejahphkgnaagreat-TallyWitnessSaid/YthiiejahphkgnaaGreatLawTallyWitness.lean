/- THE LAW TallyWitness IS TRUE FOR EVERY INPUT, AND ITS ARGUMENTS READ BEHIND THE CALL AS BEFORE. No condition beside the given row's own. (Own work.) -/
import Derived.Test.YthiiejahphkgnaaGreatWBase
set_option linter.unusedVariables false
namespace Go.Proofs.YthiiejahphkgnaaGreat.tallyWitness
open Go.ChangeShapes Go.WideShapes Go.ChangeAt Go.RowKit
open Go.ChangeMaps (open_string shut_string)
open Go.AM (RVR RVRs heapM open_agg open_one row_calls Has Sh)
open Go.AM.T (divSh has_div divC)

theorem own : ownKnob Tryz.prog.godebug = none := by kernel_rfl
theorem laidOut : laidOutB Tryz.prog = true := by kernel_rfl
theorem walk {W : World} {x0 : List Go.AM.RV} (h0 : Has divSh x0) {v0 : Value} (hv0 : RVR (heapM W) (.agg x0) v0) : Calls Tryz.prog 9 #[v0] W fun e W' => e = .returned (.bool true) ∧ Below W.heap.size W W' := by
  obtain ⟨d, a0, a1, n0, n1, p, q, rfl, hs, hb, hr⟩ := has_div h0
  obtain ⟨n, b, hf⟩ := (Go.AM.T.TallyWitness_spec hs hb hr).top
  exact row_calls (args := [.agg (divC d a0 a1 n0 n1 p q)]) progOk hf ⟨hv0, trivial⟩
set_option maxRecDepth 100000 in
theorem lifted (os : Os) (started : os.Started) (H : Type) (enc : TypeId × Value → H) :
    ReturnsInHanded {} Tryz.checked os 9 .any (Rows.tallyWitnessSpec.pre6 enc Tryz.prog Tryz.f9 Rows.tallyWitnessRow.domain false) (Rows.tallyWitnessSpec.post enc Tryz.prog Tryz.f9 false true false false) := by
  refine returnsInHanded_of_change_sized (C := Tryz.checked) own started (by kernel_rfl) Tryz.func9
    (ChangeSpec.witness6 (enc := enc) (C := Tryz.checked) false ⟨#[], #[.agg #[.int .i64 0, .slice none 0 0, .slice none 0 0, .slice none 0 0, .slice none 0 0, .slice none 0 0, .slice none 0 0, .int .u8 0, .int .i64 0, .int .i64 0, .int .u8 0]], []⟩ 8 (by kernel_rfl) (by kernel_rfl) (by kernel_rfl) (by kernel_rfl)) ?_
  intro W base args ds gs before hval0 hW hcnd hsz0 _
  have hval : ∀ (j : Nat) t v, Tryz.f9.params[j]? = some t → args[j]? = some v → Value.okWide Tryz.prog W .any base t v := hval0
  have hW' := hW
  obtain ⟨p, q, hA0, hV, rfl, hfz, hnd⟩ := hW
  have hA : DataW.TrodAll enc Tryz.prog W 0 (fun _ => true) true Tryz.f9.params.toList args.toList ds p := hA0
  rw [Tryz.params9] at hA hval
  obtain ⟨v0, vs0, d0, ds0, p0, q0, hargs, rfl, rfl, h0, r0⟩ := trodAll_cons hA
  obtain ⟨rfl, rfl, rfl⟩ := trodAll_nil r0
  obtain rfl : args = #[v0] := by cases args; simp_all
  obtain ⟨rfl, rfl⟩ := trodVars_none hV
  obtain ⟨c0, rfl, e0⟩ := okWide_struct Tryz.underlying27 (hval 0 27 v0 rfl rfl)
  have k0 := h0
  have lt0 : ∀ x ∈ p0, x.block < W.heap.size := by obtain ⟨m, hm⟩ := k0; exact DataW.trod_lt m _ _ _ hm
  obtain ⟨x0, y0, z0⟩ := open_agg (f := 8) (s := divSh) h0 (by kernel_rfl)
  refine (walk z0 y0).mono fun e W' ⟨he, bel⟩ => ?_
  subst he
  exact ⟨_, rfl, _, _, _, [], _, [], hW', trodAll_mk1 (shut_bool Tryz.underlying4 _), (trodAll_cons_mk (Below.trod laidOut (by kernel_rfl) (of_decide_eq_true (by kernel_rfl)) k0 bel lt0) trodAll_mk0), rfl, bel.frame _, fun h => by cases h⟩
theorem over : Rows.tallyWitnessRow.holds Tryz.pinned (OpenSpec.ofChange Rows.tallyWitnessSpec) :=
  OpenClaim.holds_of_wide 9 Tryz.f9 rfl rfl rfl rfl rfl rfl rfl ⟨rfl, rfl, rfl, rfl, rfl⟩ rfl rfl rfl rfl rfl (by kernel_rfl) Tryz.func9 (by kernel_rfl)
    (of_decide_eq_true (by kernel_rfl)) (by unfold Func.isWrapper; first | (rw [if_pos (by decide +kernel)]; kernel_rfl) | (rw [if_neg (by decide +kernel)]; exact ⟨rfl, rfl⟩))
    (fun os started H enc _ => lifted os started H enc)
theorem proved : Rows.TallyWitnessSaid := over
#print axioms proved
end Go.Proofs.YthiiejahphkgnaaGreat.tallyWitness
namespace Go.Proofs.YthiiejahphkgnaaGreat
/-- The row, under a short name, for the claim. -/
theorem tallyWitness_holds : Rows.TallyWitnessSaid := tallyWitness.proved
end Go.Proofs.YthiiejahphkgnaaGreat

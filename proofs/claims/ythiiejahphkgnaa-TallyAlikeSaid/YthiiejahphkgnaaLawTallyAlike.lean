/- THE LAW TallyAlike IS TRUE FOR EVERY INPUT, AND ITS ARGUMENTS READ BEHIND THE CALL AS BEFORE. No condition beside the given row's own. (Own work.) -/
import Derived.Test.YthiiejahphkgnaaLBase
set_option linter.unusedVariables false
namespace Go.Proofs.Ythiiejahphkgnaa.tallyAlike
open Go.ChangeShapes Go.WideShapes Go.ChangeAt Go.RowKit
open Go.ChangeMaps (open_string shut_string)
open Go.AM (RVR RVRs heapM open_agg open_one row_calls Has Sh)
open Go.AM.T (divSh has_div divC)

theorem own : ownKnob Try.prog.godebug = none := by kernel_rfl
theorem laidOut : laidOutB Try.prog = true := by kernel_rfl
theorem walk {W : World} {x0 : List Go.AM.RV} (h0 : Has divSh x0) {v0 : Value} (hv0 : RVR (heapM W) (.agg x0) v0) {x1 : Go.AM.RV} (h1 : Has .bool [x1]) {v1 : Value} (hv1 : RVR (heapM W) x1 v1) : Calls Try.prog 4 #[v0, v1] W fun e W' => e = .returned (.bool true) ∧ Below W.heap.size W W' := by
  obtain ⟨d, a0, a1, n0, n1, p, q, rfl, hs, hb, hr⟩ := has_div h0
  obtain ⟨y1, e1⟩ := Go.AM.T.has_bool h1
  cases e1
  obtain ⟨n, b, hf⟩ := (Go.AM.T.TallyAlike_spec hs hb hr y1).top
  exact row_calls (args := [.agg (divC d a0 a1 n0 n1 p q), .lit (.bool y1)]) (progOkJ 10) hf ⟨hv0, hv1, trivial⟩
set_option maxRecDepth 100000 in
theorem lifted (os : Os) (started : os.Started) (H : Type) (enc : TypeId × Value → H) :
    ReturnsInHanded {} Try.checked os 4 .any (Rows.tallyAlikeSpec.pre6 enc Try.prog Try.f4 Rows.tallyAlikeRow.domain false) (Rows.tallyAlikeSpec.post enc Try.prog Try.f4 false true false false) := by
  refine returnsInHanded_of_change_sized (C := Try.checked) own started (by kernel_rfl) Try.func4
    (ChangeSpec.witness6 (enc := enc) (C := Try.checked) false ⟨#[], #[.agg #[.int .i64 0, .slice none 0 0, .slice none 0 0, .slice none 0 0, .slice none 0 0, .slice none 0 0, .slice none 0 0, .int .u8 0, .int .i64 0, .int .i64 0, .int .u8 0], .bool false], []⟩ 8 (by kernel_rfl) (by kernel_rfl) (by kernel_rfl) (by kernel_rfl)) ?_
  intro W base args ds gs before hval0 hW hcnd hsz0 _
  have hval : ∀ (j : Nat) t v, Try.f4.params[j]? = some t → args[j]? = some v → Value.okWide Try.prog W .any base t v := hval0
  have hW' := hW
  obtain ⟨p, q, hA0, hV, rfl, hfz, hnd⟩ := hW
  have hA : DataW.TrodAll enc Try.prog W 0 (fun _ => true) true Try.f4.params.toList args.toList ds p := hA0
  rw [Try.params4] at hA hval
  obtain ⟨v0, vs0, d0, ds0, p0, q0, hargs, rfl, rfl, h0, r0⟩ := trodAll_cons hA
  obtain ⟨v1, vs1, d1, ds1, p1, q1, rfl, rfl, rfl, h1, r1⟩ := trodAll_cons r0
  obtain ⟨rfl, rfl, rfl⟩ := trodAll_nil r1
  obtain rfl : args = #[v0, v1] := by cases args; simp_all
  obtain ⟨rfl, rfl⟩ := trodVars_none hV
  obtain ⟨c0, rfl, e0⟩ := okWide_struct Try.underlying27 (hval 0 27 v0 rfl rfl)
  obtain ⟨c1, rfl⟩ := okWide_bool Try.underlying4 (hval 1 4 v1 rfl rfl)
  have k0 := h0
  have lt0 : ∀ x ∈ p0, x.block < W.heap.size := by obtain ⟨m, hm⟩ := k0; exact DataW.trod_lt m _ _ _ hm
  obtain ⟨x0, y0, z0⟩ := open_agg (f := 8) (s := divSh) h0 (by kernel_rfl)
  have k1 := h1
  have lt1 : ∀ x ∈ p1, x.block < W.heap.size := by obtain ⟨m, hm⟩ := k1; exact DataW.trod_lt m _ _ _ hm
  obtain ⟨x1, y1, z1⟩ := open_one (f := 8) (s := .bool) h1 (by kernel_rfl) rfl
  refine (walk z0 y0 z1 y1).mono fun e W' ⟨he, bel⟩ => ?_
  subst he
  exact ⟨_, rfl, _, _, _, [], _, [], hW', trodAll_mk1 (shut_bool Try.underlying4 _), (trodAll_cons_mk (Below.trod laidOut (by kernel_rfl) (of_decide_eq_true (by kernel_rfl)) k0 bel lt0) (trodAll_cons_mk (Below.trod laidOut (by kernel_rfl) (of_decide_eq_true (by kernel_rfl)) k1 bel lt1) trodAll_mk0)), rfl, bel.frame _, fun h => by cases h⟩
theorem over : Rows.tallyAlikeRow.holds Try.pinned (OpenSpec.ofChange Rows.tallyAlikeSpec) :=
  OpenClaim.holds_of_wide 4 Try.f4 rfl rfl rfl rfl rfl rfl rfl ⟨rfl, rfl, rfl, rfl, rfl⟩ rfl rfl rfl rfl rfl (by kernel_rfl) Try.func4 (by kernel_rfl)
    (of_decide_eq_true (by kernel_rfl)) (by unfold Func.isWrapper; first | (rw [if_pos (by decide +kernel)]; kernel_rfl) | (rw [if_neg (by decide +kernel)]; exact ⟨rfl, rfl⟩))
    (fun os started H enc _ => lifted os started H enc)
theorem proved : Rows.TallyAlikeSaid := over
#print axioms proved
end Go.Proofs.Ythiiejahphkgnaa.tallyAlike
namespace Go.Proofs.Ythiiejahphkgnaa
/-- The row, under a short name, for the claim. -/
theorem tallyAlike_holds : Rows.TallyAlikeSaid := tallyAlike.proved
end Go.Proofs.Ythiiejahphkgnaa

/- THE LAW TallyPairs IS TRUE FOR EVERY INPUT, AND ITS ARGUMENTS READ BEHIND THE CALL AS BEFORE. No condition beside the given row's own. (Own work.) -/
import Derived.Test.YthiiejahphkgnaaGreatPBase
set_option linter.unusedVariables false
namespace Go.Proofs.YthiiejahphkgnaaGreat.tallyPairs
open Go.ChangeShapes Go.WideShapes Go.ChangeAt Go.RowKit
open Go.ChangeMaps (open_string shut_string)
open Go.AM (RVR RVRs heapM open_agg open_one row_calls Has Sh)
open Go.AM.T (divSh has_div divC)

theorem own : ownKnob Tryz.prog.godebug = none := by kernel_rfl
theorem laidOut : laidOutB Tryz.prog = true := by kernel_rfl
theorem walk {W : World} {x0 : List Go.AM.RV} (h0 : Has divSh x0) {v0 : Value} (hv0 : RVR (heapM W) (.agg x0) v0) {x1 : Go.AM.RV} (h1 : Has (.int .u32) [x1]) {v1 : Value} (hv1 : RVR (heapM W) x1 v1) {x2 : Go.AM.RV} (h2 : Has (.int .u32) [x2]) {v2 : Value} (hv2 : RVR (heapM W) x2 v2) {x3 : Go.AM.RV} (h3 : Has (.int .u8) [x3]) {v3 : Value} (hv3 : RVR (heapM W) x3 v3) : Calls Tryz.prog 7 #[v0, v1, v2, v3] W fun e W' => e = .returned (.bool true) ∧ Below W.heap.size W W' := by
  obtain ⟨d, a0, a1, n0, n1, p, q, rfl, hs, hb, hr⟩ := has_div h0
  obtain ⟨y1, e1, w1⟩ := Go.AM.T.has_u32 h1
  cases e1
  obtain ⟨y2, e2, w2⟩ := Go.AM.T.has_u32 h2
  cases e2
  obtain ⟨y3, e3, w3⟩ := Go.AM.T.has_u8 h3
  cases e3
  obtain ⟨n, b, hf⟩ := (Go.AM.T.TallyPairs_spec hs hb hr w1 w2 w3).top
  exact row_calls (args := [.agg (divC d a0 a1 n0 n1 p q), .lit (.int .u32 y1), .lit (.int .u32 y2), .lit (.int .u8 y3)]) progOk hf ⟨hv0, hv1, hv2, hv3, trivial⟩
set_option maxRecDepth 100000 in
theorem lifted (os : Os) (started : os.Started) (H : Type) (enc : TypeId × Value → H) :
    ReturnsInHanded {} Tryz.checked os 7 .any (Rows.tallyPairsSpec.pre6 enc Tryz.prog Tryz.f7 Rows.tallyPairsRow.domain false) (Rows.tallyPairsSpec.post enc Tryz.prog Tryz.f7 false true false false) := by
  refine returnsInHanded_of_change_sized (C := Tryz.checked) own started (by kernel_rfl) Tryz.func7
    (ChangeSpec.witness6 (enc := enc) (C := Tryz.checked) false ⟨#[], #[.agg #[.int .i64 0, .slice none 0 0, .slice none 0 0, .slice none 0 0, .slice none 0 0, .slice none 0 0, .slice none 0 0, .int .u8 0, .int .i64 0, .int .i64 0, .int .u8 0], .int .u32 0, .int .u32 0, .int .u8 0], []⟩ 8 (by kernel_rfl) (by kernel_rfl) (by kernel_rfl) (by kernel_rfl)) ?_
  intro W base args ds gs before hval0 hW hcnd hsz0 _
  have hval : ∀ (j : Nat) t v, Tryz.f7.params[j]? = some t → args[j]? = some v → Value.okWide Tryz.prog W .any base t v := hval0
  have hW' := hW
  obtain ⟨p, q, hA0, hV, rfl, hfz, hnd⟩ := hW
  have hA : DataW.TrodAll enc Tryz.prog W 0 (fun _ => true) true Tryz.f7.params.toList args.toList ds p := hA0
  rw [Tryz.params7] at hA hval
  obtain ⟨v0, vs0, d0, ds0, p0, q0, hargs, rfl, rfl, h0, r0⟩ := trodAll_cons hA
  obtain ⟨v1, vs1, d1, ds1, p1, q1, rfl, rfl, rfl, h1, r1⟩ := trodAll_cons r0
  obtain ⟨v2, vs2, d2, ds2, p2, q2, rfl, rfl, rfl, h2, r2⟩ := trodAll_cons r1
  obtain ⟨v3, vs3, d3, ds3, p3, q3, rfl, rfl, rfl, h3, r3⟩ := trodAll_cons r2
  obtain ⟨rfl, rfl, rfl⟩ := trodAll_nil r3
  obtain rfl : args = #[v0, v1, v2, v3] := by cases args; simp_all
  obtain ⟨rfl, rfl⟩ := trodVars_none hV
  obtain ⟨c0, rfl, e0⟩ := okWide_struct Tryz.underlying27 (hval 0 27 v0 rfl rfl)
  obtain ⟨c1, rfl⟩ := okWide_int Tryz.underlying57 (hval 1 57 v1 rfl rfl)
  obtain ⟨c2, rfl⟩ := okWide_int Tryz.underlying57 (hval 2 57 v2 rfl rfl)
  obtain ⟨c3, rfl⟩ := okWide_int Tryz.underlying5 (hval 3 5 v3 rfl rfl)
  have k0 := h0
  have lt0 : ∀ x ∈ p0, x.block < W.heap.size := by obtain ⟨m, hm⟩ := k0; exact DataW.trod_lt m _ _ _ hm
  obtain ⟨x0, y0, z0⟩ := open_agg (f := 8) (s := divSh) h0 (by kernel_rfl)
  have k1 := h1
  have lt1 : ∀ x ∈ p1, x.block < W.heap.size := by obtain ⟨m, hm⟩ := k1; exact DataW.trod_lt m _ _ _ hm
  obtain ⟨x1, y1, z1⟩ := open_one (f := 8) (s := (.int .u32)) h1 (by kernel_rfl) rfl
  have k2 := h2
  have lt2 : ∀ x ∈ p2, x.block < W.heap.size := by obtain ⟨m, hm⟩ := k2; exact DataW.trod_lt m _ _ _ hm
  obtain ⟨x2, y2, z2⟩ := open_one (f := 8) (s := (.int .u32)) h2 (by kernel_rfl) rfl
  have k3 := h3
  have lt3 : ∀ x ∈ p3, x.block < W.heap.size := by obtain ⟨m, hm⟩ := k3; exact DataW.trod_lt m _ _ _ hm
  obtain ⟨x3, y3, z3⟩ := open_one (f := 8) (s := (.int .u8)) h3 (by kernel_rfl) rfl
  refine (walk z0 y0 z1 y1 z2 y2 z3 y3).mono fun e W' ⟨he, bel⟩ => ?_
  subst he
  exact ⟨_, rfl, _, _, _, [], _, [], hW', trodAll_mk1 (shut_bool Tryz.underlying4 _), (trodAll_cons_mk (Below.trod laidOut (by kernel_rfl) (of_decide_eq_true (by kernel_rfl)) k0 bel lt0) (trodAll_cons_mk (Below.trod laidOut (by kernel_rfl) (of_decide_eq_true (by kernel_rfl)) k1 bel lt1) (trodAll_cons_mk (Below.trod laidOut (by kernel_rfl) (of_decide_eq_true (by kernel_rfl)) k2 bel lt2) (trodAll_cons_mk (Below.trod laidOut (by kernel_rfl) (of_decide_eq_true (by kernel_rfl)) k3 bel lt3) trodAll_mk0)))), rfl, bel.frame _, fun h => by cases h⟩
theorem over : Rows.tallyPairsRow.holds Tryz.pinned (OpenSpec.ofChange Rows.tallyPairsSpec) :=
  OpenClaim.holds_of_wide 7 Tryz.f7 rfl rfl rfl rfl rfl rfl rfl ⟨rfl, rfl, rfl, rfl, rfl⟩ rfl rfl rfl rfl rfl (by kernel_rfl) Tryz.func7 (by kernel_rfl)
    (of_decide_eq_true (by kernel_rfl)) (by unfold Func.isWrapper; first | (rw [if_pos (by decide +kernel)]; kernel_rfl) | (rw [if_neg (by decide +kernel)]; exact ⟨rfl, rfl⟩))
    (fun os started H enc _ => lifted os started H enc)
theorem proved : Rows.TallyPairsSaid := over
#print axioms proved
end Go.Proofs.YthiiejahphkgnaaGreat.tallyPairs
namespace Go.Proofs.YthiiejahphkgnaaGreat
/-- The row, under a short name, for the claim. -/
theorem tallyPairs_holds : Rows.TallyPairsSaid := tallyPairs.proved
end Go.Proofs.YthiiejahphkgnaaGreat

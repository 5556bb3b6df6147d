/- The functions in the machine are those of the program: checked by the kernel. No condition. (Own work.) -/
import Derived.Test.YthiiejahphkgnaaRows
import Derived.Test.YthiiejahphkgnaaLQ7
import Derived.WalkKit
import Derived.ProofKit
import Derived.OpenShut
import Derived.ShutString
import Derived.ChangeOld
import Derived.Below
import Derived.SizedLaws
set_option linter.unusedVariables false
namespace Go.Proofs.Ythiiejahphkgnaa
open Go.AM Go.AM.T

theorem prog_lt : ∀ f fn, C.prog f = some fn → f < 300 := by
  intro f fn h
  have h : prog f = some fn := h
  unfold prog at h
  split at h <;> first
    | decide
    | (cases h; done)
theorem fns_all : ((List.range 300).all fun f => match C.prog f with | some fn => fnOk Try.prog f fn | none => true) = true := by kernel_rfl
theorem progOk : ProgOk Try.prog (chkDraw Try.prog) C where
  draw := draw_ok Try.checked.mixed
  fns := fun f fn h => by
    have h1 := List.all_eq_true.1 fns_all f (List.mem_range.2 (prog_lt f fn h))
    rw [h] at h1
    exact fnOk_ok h1
  ext := fun f e h => by cases h
  extw := fun f e h => by cases h
  dfr := fun n _ rec f args m av m' recd h => by
    exfalso
    cases n with
    | zero => simp [dfrN] at h
    | succ n =>
      unfold dfrN at h
      simp only [show C.dfr = false from rfl] at h
      cases h
theorem askOk : fnOk Try.prog fn_tally_Ask_1 a_tally_Ask_1 = true := by kernel_rfl
theorem progOkJ : ∀ n, ProgOk Try.prog (chkDraw Try.prog) (CJ n)
  | 0 => progOk
  | n + 1 => by
    have ih := progOkJ n
    have hd : (CJ (n + 1)).dfr = false := (cj_le (n + 1)).dfr
    refine ⟨ih.draw, fun f fn h => ?_, fun f e he => ?_, fun f e he => ?_, fun k _ rec f args m av m' recd h => ?_⟩
    · rw [cj_prog] at h; exact progOk.fns f fn h
    · have he : (if f = fn_tally_Ask_1 then some (splitE (CJ n) fn_tally_Ask_1 a_tally_Ask_1 0) else none) = some e := by rw [CJ] at he; exact he
      split at he
      · rename_i hf
        subst hf
        cases he
        exact splitE_ok ih (fnOk_ok askOk) 0
      · cases he
    · have he : (if f = fn_tally_Ask_1 then some (splitE (CJ n) fn_tally_Ask_1 a_tally_Ask_1 0) else none) = some e := by rw [CJ] at he; exact he
      split at he
      · cases he
        exact splitE_wr ih.extw
      · cases he
    · cases k with
      | zero => simp [dfrN] at h
      | succ k => simp [dfrN, hd] at h
end Go.Proofs.Ythiiejahphkgnaa

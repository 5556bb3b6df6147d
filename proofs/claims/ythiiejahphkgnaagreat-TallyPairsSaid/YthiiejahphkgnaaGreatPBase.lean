/- The functions in the machine are those of the program: checked by the kernel. No condition. (Own work.) -/
import Derived.Test.YthiiejahphkgnaaGreatRows
import Derived.Test.YthiiejahphkgnaaGreatPQ7
import Derived.WalkKit
import Derived.ProofKit
import Derived.OpenShut
import Derived.ShutString
import Derived.ChangeOld
import Derived.Below
import Derived.SizedLaws
set_option linter.unusedVariables false
namespace Go.Proofs.YthiiejahphkgnaaGreat
open Go.AM Go.AM.T

theorem prog_lt : ∀ f fn, C.prog f = some fn → f < 300 := by
  intro f fn h
  have h : prog f = some fn := h
  unfold prog at h
  split at h <;> first
    | decide
    | (cases h; done)
theorem fns_all : ((List.range 300).all fun f => match C.prog f with | some fn => fnOk Tryz.prog f fn | none => true) = true := by kernel_rfl
theorem progOk : ProgOk Tryz.prog (chkDraw Tryz.prog) C where
  draw := draw_ok Tryz.checked.mixed
  fns := fun f fn h => by
    have h1 := List.all_eq_true.1 fns_all f (List.mem_range.2 (prog_lt f fn h))
    rw [h] at h1
    exact fnOk_ok h1
  ext := fun f e h => by cases h
  extw := fun f e h => by cases h
  dfr := fun n _ rec f args m av m' recd h => by
    exfalso
    cases n with
    | zero => simp [dfrN] at h
    | succ n =>
      unfold dfrN at h
      simp only [show C.dfr = false from rfl] at h
      cases h
end Go.Proofs.YthiiejahphkgnaaGreat

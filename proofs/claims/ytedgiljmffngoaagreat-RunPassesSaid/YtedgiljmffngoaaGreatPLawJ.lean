/- What the closing of the law asks of the program and the row. -/
import Derived.Test.YtedgiljmffngoaaGreatChecked
import Derived.Test.YtedgiljmffngoaaGreatRows
import Derived.KernelRfl
import Derived.JoinedOf
namespace Go.Proofs.YtedgiljmffngoaaGreat
set_option linter.all false
namespace rpass
theorem rpass_n:Tryz.pinned.checked.prog.funcNamed Rows.runPassesRow.func=some 8:=by kernel_rfl
set_option maxHeartbeats 20000000 in
theorem rpass_j:joinedFacts Tryz.pinned.checked.prog 8 Tryz.f8 Rows.runPassesSpec Rows.runPassesRow=true:=by
 unfold joinedFacts
 iterate 31 refine Bool.and_eq_true_iff.2 ⟨?_,?_⟩
 all_goals as_aux_lemma=>kernel_rfl
end rpass
end Go.Proofs.YtedgiljmffngoaaGreat

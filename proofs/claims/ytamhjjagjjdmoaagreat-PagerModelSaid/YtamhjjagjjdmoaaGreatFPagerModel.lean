/- the row's facts of the law PagerModel -/
import Derived.Test.YtamhjjagjjdmoaaGreatRows
import Derived.ProofKit
import Derived.KernelRfl
section
namespace Go.Proofs.YtamhjjagjjdmoaaGreat
open Go.ChangeShapes Go.WideShapes Go.ChangeAt Go.RowKit
set_option maxHeartbeats 20000000 in
set_option maxRecDepth 100000 in
theorem DonePagerModel.facts : joinedFacts Tryz.pinned.checked.prog 7 Tryz.f7 Rows.pagerModelSpec Rows.pagerModelRow = true := by
  unfold joinedFacts
  simp only [Bool.and_eq_true]
  repeat' apply And.intro
  all_goals (as_aux_lemma => kernel_rfl)
end Go.Proofs.YtamhjjagjjdmoaaGreat
end

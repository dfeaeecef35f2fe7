/- MarketCurtails: the law returns true at every input, and each argument reads behind the call as it read before (condition: the listed tables of Go's library hold what the program's text lays): closed facts of the translation. -/
import Derived.Test.YtfdlhbdcejlopaaGreatDoorCurtF1
namespace Go.Proofs.YtfdlhbdcejlopaaGreatDoor.B
open Go
set_option maxRecDepth 100000
theorem curtails_closed : joinedFacts Tryz.pinned.checked.prog 5 Tryz.f5 Rows.marketCurtailsSpec Rows.marketCurtailsRow = true := by
 unfold joinedFacts
 repeat' (with_reducible refine Bool.and_eq_true_iff.2 ⟨?_, ?_⟩)
 all_goals first | with_reducible exact kf_laid | with_reducible exact kf_maps | with_reducible exact kf_heard | with_reducible exact kf_enter | (as_aux_lemma => kernel_rfl)
theorem curtails_no : Tryz.pinned.checked.prog.funcNamed Rows.marketCurtailsRow.func = some 5 := by kernel_rfl
theorem curtails_wf : Rows.marketCurtailsRow.wfByText (OpenSpec.ofChange Rows.marketCurtailsSpec) = true := by kernel_rfl
theorem curtails_goes : false = Rows.marketCurtailsRow.goesBy Tryz.pinned.checked.prog := by kernel_rfl
end Go.Proofs.YtfdlhbdcejlopaaGreatDoor.B

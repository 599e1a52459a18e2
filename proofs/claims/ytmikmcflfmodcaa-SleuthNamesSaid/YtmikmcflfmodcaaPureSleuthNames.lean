/- Every error, limit and kind of package api has the number that the document gives it. No condition: a closed sentence. -/
import Derived.Test.YtmikmcflfmodcaaPSleuthNamesx1
namespace Go.Proofs.Ytmikmcflfmodcaa.Pure
open Go.RowKit Go.Proofs.Ytmikmcflfmodcaa.PSleuthNames Go.Proofs.YtmikmcflfmodcaaW.PrintWords Go.Proofs.YtmikmcflfmodcaaW.PrintLast

theorem SleuthNames : sleuthlaw0_SleuthNames.Pure := by
  unfold sleuthlaw0_SleuthNames.Pure
  decide +kernel

end Go.Proofs.Ytmikmcflfmodcaa.Pure

/- A part of the proof that the law CountLooseRanks answers true. No condition. -/
import Derived.Test.YthnfbamnfihcaaaGreatCalls
set_option linter.unusedVariables false
set_option linter.unusedSimpArgs false
set_option linter.unusedSectionVars false
section
noncomputable section
set_option maxRecDepth 100000
namespace Go.Pv.E2
open Go.Vm Go.Pv.K
theorem MJ:R tz 5 ([],B true):=by decide +kernel
end Go.Pv.E2
end

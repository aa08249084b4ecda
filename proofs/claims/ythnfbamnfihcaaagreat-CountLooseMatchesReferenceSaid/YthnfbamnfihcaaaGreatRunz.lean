/- A part of the proof. No condition. -/
import Derived.Test.YthnfbamnfihcaaaGreatCalls
set_option linter.unusedVariables false
section
noncomputable section
set_option maxRecDepth 100000
namespace Go.Pv.E2
open Go.Vm Go.Pv.K
theorem YZ:R xt9 5 ([],B true):=by decide +kernel
end Go.Pv.E2
end

/- A part of the proof. No condition. -/
import Derived.Test.YthnfbamnfihcaaaGreatCalls
set_option linter.unusedVariables false
section
noncomputable section
set_option maxRecDepth 100000
namespace Go.Pv.E2
open Go.Vm Go.Pv.K
theorem xc8:lA xt7 xg8=true:=by decide +kernel
end Go.Pv.E2
end

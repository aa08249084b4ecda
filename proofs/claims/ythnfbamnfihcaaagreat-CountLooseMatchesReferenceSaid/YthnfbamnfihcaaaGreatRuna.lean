/- A part of the proof. No condition. -/
import Derived.Test.YthnfbamnfihcaaaGreatCalls
set_option linter.unusedVariables false
section
noncomputable section
set_option maxRecDepth 100000
namespace Go.Pv.E2
open Go.Vm Go.Pv.K
theorem xc1:lA xt0 xg1=true:=by decide +kernel
theorem xc2:lA xt1 xg2=true:=by decide +kernel
theorem xc3:lA xt2 xg3=true:=by decide +kernel
theorem xc4:lA xt3 xg4=true:=by decide +kernel
end Go.Pv.E2
end

/- A part of the proof that the law CountLooseRanks answers true. No condition. -/
import Derived.Test.YthnfbamnfihcaaaGreatCalls
set_option linter.unusedVariables false
set_option linter.unusedSimpArgs false
set_option linter.unusedSectionVars false
section
noncomputable section
set_option maxRecDepth 100000
namespace Go.Pv.E2
open Go.Vm Go.Pv.K
theorem ME:chk t3 18 1 dS=true:=by decide +kernel
theorem MF:chk t3 24 2 dU=true:=by decide +kernel
theorem RU:chk t3 9 1 tO=true:=by decide +kernel
theorem HH:chk t4 254 1 Wx=true:=by decide +kernel
end Go.Pv.E2
end

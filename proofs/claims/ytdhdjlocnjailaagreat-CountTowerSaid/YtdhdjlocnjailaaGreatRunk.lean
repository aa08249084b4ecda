/- A part of the proof that the law CountTower answers true. No condition. -/
import Derived.Test.YtdhdjlocnjailaaGreatCalls
set_option linter.unusedVariables false
set_option linter.unusedSimpArgs false
set_option linter.unusedSectionVars false
section
set_option maxRecDepth 100000
namespace Go.Pv.E
open Go.Vm Go.Pv.K
theorem e54_7_c : chk t6 54 1 e54_7 = true := by decide +kernel
end Go.Pv.E
end

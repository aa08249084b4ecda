/- A part of the proof that the law CountTower answers true. No condition. -/
import Derived.Test.YtdhdjlocnjailaaGreatCalls
set_option linter.unusedVariables false
set_option linter.unusedSimpArgs false
set_option linter.unusedSectionVars false
section
set_option maxRecDepth 100000
namespace Go.Pv.E
open Go.Vm Go.Pv.K
theorem e16_8_c : chk t7 16 1 e16_8 = true := by decide +kernel
theorem e4_9_c : chk t8 4 1 e4_9 = true := by decide +kernel
end Go.Pv.E
end

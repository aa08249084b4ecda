/- A part of the proof that the law CountTower answers true. No condition. -/
import Derived.Test.YtdhdjlocnjailaaGreatCalls
set_option linter.unusedVariables false
set_option linter.unusedSimpArgs false
set_option linter.unusedSectionVars false
section
set_option maxRecDepth 100000
namespace Go.Pv.E
open Go.Vm Go.Pv.K
theorem e15_6b_c : chk t5 15 1 e15_6b = true := by decide +kernel
theorem e7_6_c : chk t5 7 7 e7_6 = true := by decide +kernel
theorem e8_6_c : chk t5 8 6 e8_6 = true := by decide +kernel
end Go.Pv.E
end

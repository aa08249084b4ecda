/- A part of the proof that the law CountTower answers true. No condition. -/
import Derived.Test.YtdhdjlocnjailaaGreatCalls
set_option linter.unusedVariables false
set_option linter.unusedSimpArgs false
set_option linter.unusedSectionVars false
section
set_option maxRecDepth 100000
namespace Go.Pv.E
open Go.Vm Go.Pv.K
theorem e6_6_c : chk t5 6 20 e6_6 = true := by decide +kernel
theorem e6_6a_c : chk t5 6 1 e6_6a = true := by decide +kernel
theorem e14_6_c : chk t5 14 12 e14_6 = true := by decide +kernel
end Go.Pv.E
end

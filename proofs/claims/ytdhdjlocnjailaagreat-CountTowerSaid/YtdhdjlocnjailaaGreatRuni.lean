/- A part of the proof that the law CountTower answers true. No condition. -/
import Derived.Test.YtdhdjlocnjailaaGreatCalls
set_option linter.unusedVariables false
set_option linter.unusedSimpArgs false
set_option linter.unusedSectionVars false
section
set_option maxRecDepth 100000
namespace Go.Pv.E
open Go.Vm Go.Pv.K
theorem e15_6_c : chk t5 15 10 e15_6 = true := by decide +kernel
theorem e15_6a_c : chk t5 15 2 e15_6a = true := by decide +kernel
end Go.Pv.E
end

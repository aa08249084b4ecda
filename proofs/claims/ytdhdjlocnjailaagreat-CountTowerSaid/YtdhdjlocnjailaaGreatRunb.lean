/- A part of the proof that the law CountTower answers true. No condition. -/
import Derived.Test.YtdhdjlocnjailaaGreatCalls
set_option linter.unusedVariables false
set_option linter.unusedSimpArgs false
set_option linter.unusedSectionVars false
section
set_option maxRecDepth 100000
namespace Go.Pv.E
open Go.Vm Go.Pv.K
theorem e141_2a_c : chk t1 141 5 e141_2a = true := by decide +kernel
theorem e41_2_c : chk t1 41 1 e41_2 = true := by decide +kernel
theorem e73_2_c : chk t1 73 39 e73_2 = true := by decide +kernel
theorem e73_2a_c : chk t1 73 2 e73_2a = true := by decide +kernel
theorem e73_2c_c : chk t1 73 1 e73_2c = true := by decide +kernel
theorem e73_2e_c : chk t1 73 1 e73_2e = true := by decide +kernel
end Go.Pv.E
end

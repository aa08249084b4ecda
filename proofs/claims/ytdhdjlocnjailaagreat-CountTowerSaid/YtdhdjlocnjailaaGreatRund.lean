/- A part of the proof that the law CountTower answers true. No condition. -/
import Derived.Test.YtdhdjlocnjailaaGreatCalls
set_option linter.unusedVariables false
set_option linter.unusedSimpArgs false
set_option linter.unusedSectionVars false
section
set_option maxRecDepth 100000
namespace Go.Pv.E
open Go.Vm Go.Pv.K
theorem e11_2a_c : chk t1 11 1 e11_2a = true := by decide +kernel
theorem e216_3_c : chk t2 216 6 e216_3 = true := by decide +kernel
theorem e130_3_c : chk t2 130 9 e130_3 = true := by decide +kernel
theorem e129_3_c : chk t2 129 5 e129_3 = true := by decide +kernel
theorem e78_3_c : chk t2 78 1 e78_3 = true := by decide +kernel
theorem e169_3_c : chk t2 169 56 e169_3 = true := by decide +kernel
end Go.Pv.E
end

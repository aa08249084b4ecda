/- A part of the proof that the law CountTower answers true. No condition. -/
import Derived.Test.YtdhdjlocnjailaaGreatCalls
set_option linter.unusedVariables false
set_option linter.unusedSimpArgs false
set_option linter.unusedSectionVars false
section
set_option maxRecDepth 100000
namespace Go.Pv.E
open Go.Vm Go.Pv.K
theorem e73_2g_c : chk t1 73 1 e73_2g = true := by decide +kernel
theorem e72_2_c : chk t1 72 41 e72_2 = true := by decide +kernel
theorem e107_2_c : chk t1 107 22 e107_2 = true := by decide +kernel
theorem e96_2_c : chk t1 96 1 e96_2 = true := by decide +kernel
theorem e5_2_c : chk t1 5 20 e5_2 = true := by decide +kernel
theorem e13_2_c : chk t1 13 6 e13_2 = true := by decide +kernel
theorem e11_2_c : chk t1 11 10 e11_2 = true := by decide +kernel
end Go.Pv.E
end

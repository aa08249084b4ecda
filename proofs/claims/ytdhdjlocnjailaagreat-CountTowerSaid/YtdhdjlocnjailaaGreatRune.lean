/- A part of the proof that the law CountTower answers true. No condition. -/
import Derived.Test.YtdhdjlocnjailaaGreatCalls
set_option linter.unusedVariables false
set_option linter.unusedSimpArgs false
set_option linter.unusedSectionVars false
section
set_option maxRecDepth 100000
namespace Go.Pv.E
open Go.Vm Go.Pv.K
theorem e96_3_c : chk t2 96 21 e96_3 = true := by decide +kernel
theorem e55_3_c : chk t2 55 1 e55_3 = true := by decide +kernel
theorem e56_3_c : chk t2 56 1 e56_3 = true := by decide +kernel
theorem e164_4_c : chk t3 164 1 e164_4 = true := by decide +kernel
theorem e81_4_c : chk t3 81 4 e81_4 = true := by decide +kernel
theorem e125_4_c : chk t3 125 4 e125_4 = true := by decide +kernel
theorem e85_4_c : chk t3 85 28 e85_4 = true := by decide +kernel
theorem e55_4_c : chk t3 55 21 e55_4 = true := by decide +kernel
end Go.Pv.E
end

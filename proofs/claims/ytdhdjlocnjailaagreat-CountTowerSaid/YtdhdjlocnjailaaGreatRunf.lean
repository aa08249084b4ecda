/- A part of the proof that the law CountTower answers true. No condition. -/
import Derived.Test.YtdhdjlocnjailaaGreatCalls
set_option linter.unusedVariables false
set_option linter.unusedSimpArgs false
set_option linter.unusedSectionVars false
section
set_option maxRecDepth 100000
namespace Go.Pv.E
open Go.Vm Go.Pv.K
theorem e56_4_c : chk t3 56 15 e56_4 = true := by decide +kernel
theorem e56_4a_c : chk t3 56 6 e56_4a = true := by decide +kernel
theorem e18_4_c : chk t3 18 1 e18_4 = true := by decide +kernel
theorem e77_5_c : chk t4 77 1 e77_5 = true := by decide +kernel
theorem e82_5_c : chk t4 82 4 e82_5 = true := by decide +kernel
theorem e18_5_c : chk t4 18 21 e18_5 = true := by decide +kernel
theorem e6_5_c : chk t4 6 1 e6_5 = true := by decide +kernel
theorem e52_6_c : chk t5 52 1 e52_6 = true := by decide +kernel
theorem e86_6_c : chk t5 86 1 e86_6 = true := by decide +kernel
end Go.Pv.E
end

/- A part of the proof that the law CountTower answers true. No condition. -/
import Derived.Test.YtdhdjlocnjailaaGreatCalls
set_option linter.unusedVariables false
set_option linter.unusedSimpArgs false
set_option linter.unusedSectionVars false
section
set_option maxRecDepth 100000
namespace Go.Pv.E
open Go.Vm Go.Pv.K
theorem e9_1_c : chk t0 9 2 e9_1 = true := by decide +kernel
theorem e206_1_c : chk t0 206 10 e206_1 = true := by decide +kernel
theorem e230_1_c : chk t0 230 3 e230_1 = true := by decide +kernel
theorem e179_1_c : chk t0 179 8 e179_1 = true := by decide +kernel
theorem e210_1_c : chk t0 210 10 e210_1 = true := by decide +kernel
theorem e182_1_c : chk t0 182 124 e182_1 = true := by decide +kernel
theorem e93_1_c : chk t0 93 1 e93_1 = true := by decide +kernel
theorem e26_1_c : chk t0 26 2 e26_1 = true := by decide +kernel
theorem e39_1_c : chk t0 39 30 e39_1 = true := by decide +kernel
theorem e59_1_c : chk t0 59 38 e59_1 = true := by decide +kernel
theorem e10_1_c : chk t0 10 5 e10_1 = true := by decide +kernel
theorem e22_1_c : chk t0 22 1 e22_1 = true := by decide +kernel
theorem e141_1_c : chk t0 141 1 e141_1 = true := by decide +kernel
theorem e12_1_c : chk t0 12 22 e12_1 = true := by decide +kernel
theorem e35_1_c : chk t0 35 15 e35_1 = true := by decide +kernel
theorem e37_1_c : chk t0 37 20 e37_1 = true := by decide +kernel
theorem e121_2_c : chk t1 121 1 e121_2 = true := by decide +kernel
theorem e173_2_c : chk t1 173 17 e173_2 = true := by decide +kernel
theorem e224_2_c : chk t1 224 42 e224_2 = true := by decide +kernel
theorem e141_2_c : chk t1 141 16 e141_2 = true := by decide +kernel
end Go.Pv.E
end

/- A part of the proof that the law CountTower answers true. No condition. -/
import Derived.Test.YtdhdjlocnjailaaGreatCalls
set_option linter.unusedVariables false
set_option linter.unusedSimpArgs false
set_option linter.unusedSectionVars false
section
set_option maxRecDepth 100000
namespace Go.Pv.E
open Go.Vm Go.Pv.K
theorem run_all : ∀ n, n < 256 → R tz 3 ([.v (.s (.int .u8 (.ofNat n)))], B true) := by decide +kernel
end Go.Pv.E
end

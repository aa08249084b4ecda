/- A part of the proof that the law CountLooseRanks answers true. No condition. -/
import Derived.Test.YthnfbamnfihcaaaGreatSets
set_option linter.unusedVariables false
set_option linter.unusedSimpArgs false
set_option linter.unusedSectionVars false
section
noncomputable section
set_option maxRecDepth 100000
namespace Go.Pv.E
open Go.Vm Go.Pv.K
theorem JK:∀n,n<43→R 10 [.v (.s (.lst 1 [[.int .u8 (n:Nat)]] none)),.v (.s (.int .i64 (2:Nat)))] (dA (n % 16)):=by decide +kernel
theorem JL:∀n,n<43→R 10 [.v (.s (.lst 1 [[.int .u8 (n+43:Nat)]] none)),.v (.s (.int .i64 (2:Nat)))] (dA ((n+43) % 16)):=by decide +kernel
theorem JM:R 10 [.v (.s (.lst 1 [[.int .u8 (170:Nat)]] none)),.v (.s (.int .i64 (2:Nat)))] (dA 10):=by decide +kernel
theorem JN:R 10 [.v (.s (.lst 1 [[.int .u8 (210:Nat)]] none)),.v (.s (.int .i64 (2:Nat)))] (dA 2):=by decide +kernel
theorem JO:R 10 [.v (.s (.lst 1 [[.int .u8 (250:Nat)]] none)),.v (.s (.int .i64 (2:Nat)))] (dA 10):=by decide +kernel
theorem JP:R 10 [.v (.s (.lst 1 [[.int .u8 (34:Nat)]] none)),.v (.s (.int .i64 (2:Nat)))] (dA 2):=by decide +kernel
end Go.Pv.E
end

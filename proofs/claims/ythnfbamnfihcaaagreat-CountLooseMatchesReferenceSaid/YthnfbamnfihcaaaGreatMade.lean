/- A part of the proof. No condition. -/
import Derived.Test.YthnfbamnfihcaaaGreatSets
set_option linter.unusedVariables false
section
noncomputable section
set_option maxRecDepth 100000
namespace Go.Pv.E
open Go.Vm Go.Pv.K
theorem WZ:∀n,n<43->R 10 [.v (.s (.lst 1 [[.int .u8 (n:Nat)]] none)),.v (.s (.int .i64 (2:Nat)))] (dA (n % 16)):=by decide +kernel
theorem XA:∀n,n<43->R 10 [.v (.s (.lst 1 [[.int .u8 (n+43:Nat)]] none)),.v (.s (.int .i64 (2:Nat)))] (dA ((n+43) % 16)):=by decide +kernel
theorem XB:R 10 [.v (.s (.lst 1 [[.int .u8 (170:Nat)]] none)),.v (.s (.int .i64 (2:Nat)))] (dA 10):=by decide +kernel
theorem XD:R 10 [.v (.s (.lst 1 [[.int .u8 (210:Nat)]] none)),.v (.s (.int .i64 (2:Nat)))] (dA 2):=by decide +kernel
theorem XE:R 10 [.v (.s (.lst 1 [[.int .u8 (250:Nat)]] none)),.v (.s (.int .i64 (2:Nat)))] (dA 10):=by decide +kernel
theorem XF:R 10 [.v (.s (.lst 1 [[.int .u8 (34:Nat)]] none)),.v (.s (.int .i64 (2:Nat)))] (dA 2):=by decide +kernel
end Go.Pv.E
end

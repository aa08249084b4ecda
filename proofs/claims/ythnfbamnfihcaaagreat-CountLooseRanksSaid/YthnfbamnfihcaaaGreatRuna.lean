/- A part of the proof that the law CountLooseRanks answers true. No condition. -/
import Derived.Test.YthnfbamnfihcaaaGreatCalls
set_option linter.unusedVariables false
set_option linter.unusedSimpArgs false
set_option linter.unusedSectionVars false
section
noncomputable section
set_option maxRecDepth 100000
namespace Go.Pv.E2
open Go.Vm Go.Pv.K
theorem GF:chk t0 264 15 Lu=true:=by decide +kernel
theorem GG:chk t0 178 10 Lv=true:=by decide +kernel
theorem LU:chk t0 48 2 Se=true:=by decide +kernel
theorem GH:chk t0 273 3 Lw=true:=by decide +kernel
theorem GI:chk t0 252 1 Lx=true:=by decide +kernel
theorem GJ:chk t0 253 1 Ly=true:=by decide +kernel
theorem GK:chk t0 255 1 Lz=true:=by decide +kernel
theorem GL:chk t0 256 1 Td=true:=by decide +kernel
theorem GM:chk t0 258 2 L4=true:=by decide +kernel
theorem LV:chk t0 54 4 Sf=true:=by decide +kernel
theorem GN:chk t0 104 2 L5=true:=by decide +kernel
theorem GO:chk t0 261 10 L6=true:=by decide +kernel
theorem GP:chk t0 159 124 L7=true:=by decide +kernel
theorem GQ:chk t0 262 88 L8=true:=by decide +kernel
theorem GR:chk t0 156 10 L9=true:=by decide +kernel
theorem GS:chk t0 124 2 Ma=true:=by decide +kernel
theorem GU:chk t0 125 1 Mb=true:=by decide +kernel
theorem LW:chk t0 59 1 Sg=true:=by decide +kernel
theorem GV:chk t0 117 14 Mc=true:=by decide +kernel
theorem GW:chk t1 107 1 Od=true:=by decide +kernel
theorem GX:chk t1 250 1 Oe=true:=by decide +kernel
theorem GY:chk t1 176 17 Og=true:=by decide +kernel
theorem GZ:chk t1 239 8 Oh=true:=by decide +kernel
theorem LX:chk t1 70 1 Ve=true:=by decide +kernel
theorem LY:chk t1 91 1 pP=true:=by decide +kernel
theorem LZ:chk t2 43 1 Yh=true:=by decide +kernel
theorem HA:chk t2 106 9 Qi=true:=by decide +kernel
theorem HB:chk t2 105 5 Qj=true:=by decide +kernel
theorem HC:chk t2 109 3 Qk=true:=by decide +kernel
theorem MA:chk t2 91 1 Yi=true:=by decide +kernel
theorem RS:chk t2 7 1 GD=true:=by decide +kernel
theorem HD:chk t3 251 1 Te=true:=by decide +kernel
theorem HE:chk t3 257 2 Tf=true:=by decide +kernel
theorem HF:chk t3 256 3 Tg=true:=by decide +kernel
theorem MB:chk t3 46 1 dQ=true:=by decide +kernel
theorem RT:chk t3 7 1 tN=true:=by decide +kernel
theorem MD:chk t3 14 3 wV=true:=by decide +kernel
theorem HG:chk t3 14 1 Th=true:=by decide +kernel
end Go.Pv.E2
end

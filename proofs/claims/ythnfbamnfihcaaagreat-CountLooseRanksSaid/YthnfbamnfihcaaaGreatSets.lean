/- A part of the proof that the law CountLooseRanks answers true. No condition. -/
import Derived.Test.YthnfbamnfihcaaaGreatBase
import Derived.Test.YthnfbamnfihcaaaGreatTab
set_option linter.unusedVariables false
set_option linter.unusedSimpArgs false
set_option linter.unusedSectionVars false
section
noncomputable section
set_option maxRecDepth 100000
namespace Go.Pv.E
open Go.Vm Go.Pv.K
def brV (v l h:Nat):List PV:=[.int .i64 v,.int .i64 l,.int .i64 h]
def dT:Nat→List (List PV)×Nat
 |0=>([],0)
 |1=>([brV 1 1 0,brV 0 2 0],3)
 |2=>([brV 1 1 0,brV 0 0 2],3)
 |3=>([brV 1 1 0],2)
 |4=>([brV 1 0 1,brV 0 2 0],3)
 |5=>([brV 0 1 0],2)
 |6=>([brV 1 0 1,brV 1 1 0,brV 0 2 3],4)
 |7=>([brV 1 1 0,brV 0 1 2],3)
 |8=>([brV 1 0 1,brV 0 0 2],3)
 |9=>([brV 1 1 0,brV 1 0 1,brV 0 2 3],4)
 |10=>([brV 0 0 1],2)
 |11=>([brV 1 1 0,brV 0 2 1],3)
 |12=>([brV 1 0 1],2)
 |13=>([brV 1 0 1,brV 0 1 2],3)
 |14=>([brV 1 0 1,brV 0 2 1],3)
 |_=>([],1)
def slV (es:Nat):List (List PV)→PV
 |[]=>.Af
 |l=>.lst es l none
def dA (d:Nat):PA:=.v (.agg [slV 3 (dT d).1,.int .i64 ((dT d).2:Nat)])
abbrev B (b:Bool):PA:=.v (.s (.bool b))
def F0:A4:=fun f=>C.tab.get (Key.kn f)
abbrev R (f:Nat) (xs:List PA) (r:PA):Prop:=runK F0 (known .z .z) 1000000 f xs (fun v=>eqA v r)=true
theorem JG:∀d,d<16→∀c,c<4→R 59 [dA d,.v (.s (.int .u64 (c:Nat)))] (B (d.testBit c)):=by decide +kernel
theorem WU:∀d,d<16→∀c,c<4→R 54 [dA d,.v (.s (.int .u64 (c:Nat)))] (B (d.testBit c)):=by decide +kernel
theorem WV:∀d,d<16→R 187 [dA d] (B (d !=0)):=by decide +kernel
theorem TS:∀d,d<16→R 160 [dA d] (B (d !=0)):=by decide +kernel
theorem TT:R 25 [B true] (dA 15):=by decide +kernel
theorem JH:∀d,d<16→R 109 [dA d] (dA (15-d)):=by decide +kernel
theorem TU:∀d,d<16→R 105 [dA d,dA 15] (dA 15):=by decide +kernel
theorem TV:R 106 [dA 15,dA 15] (dA 15):=by decide +kernel
theorem JI:R 48 [dA 15,dA 0] (B false):=by decide +kernel
theorem JJ:R 48 [dA 15,dA 15] (B true):=by decide +kernel
theorem VD:R 6 [.v (.s .Af)] (.tup [.agg [.lst 5 [[.int .i64 (0:Nat),.int .i64 (0:Nat),.int .i64 (0:Nat),.int .i64 (0:Nat),.Af],[.int .i64 (0:Nat),.int .i64 (0:Nat),.int .i64 (0:Nat),.int .i64 (1:Nat),.Af]] none,
  .lst 3 [[.int .i64 (0:Nat),.lst 3 (dT 10).1 none,.int .i64 (2:Nat)],[.int .i64 (1:Nat),.lst 3 (dT 2).1 none,.int .i64 (3:Nat)]] none],.s (.bool false)]):=by decide +kernel
end Go.Pv.E
end

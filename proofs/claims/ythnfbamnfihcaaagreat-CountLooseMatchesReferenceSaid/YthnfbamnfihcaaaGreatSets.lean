/- A part of the proof. No condition. -/
import Derived.Test.YthnfbamnfihcaaaGreatBase
import Derived.Test.YthnfbamnfihcaaaGreatTab
set_option linter.unusedVariables false
section
noncomputable section
set_option maxRecDepth 100000
namespace Go.Pv.E
open Go.Vm Go.Pv.K
def brV (v l h:Nat):List PV:=[.int .i64 v,.int .i64 l,.int .i64 h]
def dT:Nat->List (List PV)×Nat
 |0=>([],0)
 |1=>([brV 1 1 0,brV 0 2 0],3)
 |2=>([brV 1 1 0,brV 0 0 2],3)
 |3=>([brV 1 1 0],2)
 |4=>([brV 1 0 1,brV 0 2 0],3)
 |5=>([brV 0 1 0],2)
 |6=>([brV 1 0 1,brV 1 1 0,brV 0 2 3],4)
 |7=>([brV 1 1 0,brV 0 1 2],3)
 |8=>([brV 1 0 1,brV 0 0 2],3)
 |9=>([brV 1 1 0,brV 1 0 1,brV 0 2 3],4)
 |10=>([brV 0 0 1],2)
 |11=>([brV 1 1 0,brV 0 2 1],3)
 |12=>([brV 1 0 1],2)
 |13=>([brV 1 0 1,brV 0 1 2],3)
 |14=>([brV 1 0 1,brV 0 2 1],3)
 |_=>([],1)
def slV (es:Nat):List (List PV)->PV
 |[]=>.A4
 |l=>.lst es l none
def dA (d:Nat):PA:=.v (.agg [slV 3 (dT d).1,.int .i64 ((dT d).2:Nat)])
abbrev B (b:Bool):PA:=.v (.s (.bool b))
def F0:D5:=λf=>match Nat.beq f 40 with
 |true=>none
 |false=>C.tab.get (Key.kn f)
abbrev R (f:Nat) (xs:List PA) (r:PA):Prop:=runK F0 (known .z .z) 1000000 f xs (λv=>eqA v r)=true
theorem WV:∀d,d<16->∀c,c<4->R 59 [dA d,.v (.s (.int .u64 (c:Nat)))] (B (d.testBit c)):=by decide +kernel
theorem in_c:∀d,d<16->∀c,c<4->R 54 [dA d,.v (.s (.int .u64 (c:Nat)))] (B (d.testBit c)):=by decide +kernel
theorem ne_c:∀d,d<16->R 187 [dA d] (B (d !=0)):=by decide +kernel
theorem Adk:∀d,d<16->R 160 [dA d] (B (d !=0)):=by decide +kernel
theorem Adl:R 25 [B true] (dA 15):=by decide +kernel
theorem WW:∀d,d<16->R 109 [dA d] (dA (15-d)):=by decide +kernel
theorem Adm:∀d,d<16->R 105 [dA d,dA 15] (dA 15):=by decide +kernel
theorem Adn:R 106 [dA 15,dA 15] (dA 15):=by decide +kernel
theorem WX:R 48 [dA 15,dA 0] (B false):=by decide +kernel
theorem WY:R 48 [dA 15,dA 15] (B true):=by decide +kernel
theorem AdJ:R 6 [.v (.s .A4)] (.tup [.agg [.lst 5 [[.int .i64 (0:Nat),.int .i64 (0:Nat),.int .i64 (0:Nat),.int .i64 (0:Nat),.A4],[.int .i64 (0:Nat),.int .i64 (0:Nat),.int .i64 (0:Nat),.int .i64 (1:Nat),.A4]] none,
  .lst 3 [[.int .i64 (0:Nat),.lst 3 (dT 10).1 none,.int .i64 (2:Nat)],[.int .i64 (1:Nat),.lst 3 (dT 2).1 none,.int .i64 (3:Nat)]] none],.s (.bool false)]):=by decide +kernel
end Go.Pv.E
end

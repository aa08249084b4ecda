/- A part of the proof that the law CountLooseRanks answers true. No condition. -/
import Derived.Test.YthnfbamnfihcaaaGreatBase
import Derived.Test.YthnfbamnfihcaaaGreatProg
import Derived.KernelRfl
import Derived.Test.YthnfbamnfihcaaaGreatCode0
set_option linter.unusedVariables false
set_option linter.unusedSimpArgs false
set_option linter.unusedSectionVars false
section
noncomputable section
set_option maxRecDepth 100000
set_option maxHeartbeats 0
namespace Go.Vm.C
open Go.Proofs
def q218:Qf Tryz.f218:=qf
def q219:Qf Tryz.f219:=qf
def q220:Qf Tryz.f220:=qf
def q221:Qf Tryz.f221:=qf
def q222:Qf Tryz.f222:=qf
def q223:Qf Tryz.f223:=qf
def q224:Qf Tryz.f224:=qf
def q225:Qf Tryz.f225:=qf
def q226:Qf Tryz.f226:=qf
def q227:Qf Tryz.f227:=qf
def q228:Qf Tryz.f228:=qf
def q229:Qf Tryz.f229:=qf
def q230:Qf Tryz.f230:=qf
def q231:Qf Tryz.f231:=qf
def q232:Qf Tryz.f232:=qf
def q233:Qf Tryz.f233:=qf
def q234:Qf Tryz.f234:=qf
def q235:Qf Tryz.f235:=qf
def q236:Qf Tryz.f236:=qf
def q237:Qf Tryz.f237:=qf
def q238:Qf Tryz.f238:=qf
def q239:Qf Tryz.f239:=qf
def q240:Qf Tryz.f240:=qf
def q241:Qf Tryz.f241:=qf
def q242:Qf Tryz.f242:=qf
def q243:Qf Tryz.f243:=qf
def q244:Qf Tryz.f244:=qf
def q246:Qf Tryz.f246:=qf
def q247:Qf Tryz.f247:=qf
def q248:Qf Tryz.f248:=qf
def q249:Qf Tryz.f249:=qf
def q250:Qf Tryz.f250:=qf
def q251:Qf Tryz.f251:=qf
def q252:Qf Tryz.f252:=qf
def q253:Qf Tryz.f253:=qf
def q254:Qf Tryz.f254:=qf
def q255:Qf Tryz.f255:=qf
def q256:Qf Tryz.f256:=qf
def q257:Qf Tryz.f257:=qf
def q258:Qf Tryz.f258:=qf
def q259:Qf Tryz.f259:=qf
def q260:Qf Tryz.f260:=qf
def q261:Qf Tryz.f261:=qf
def q262:Qf Tryz.f262:=qf
def q263:Qf Tryz.f263:=qf
def q264:Qf Tryz.f264:=qf
def q265:Qf Tryz.f265:=qf
def q266:Qf Tryz.f266:=qf
def q267:Qf Tryz.f267:=qf
def q268:Qf Tryz.f268:=qf
def q270:Qf Tryz.f270:=qf
def q271:Qf Tryz.f271:=qf
def q272:Qf Tryz.f272:=qf
def q273:Qf Tryz.f273:=qf
def q274:Qf Tryz.f274:=qf
def q275:Qf Tryz.f275:=qf
def q276:Qf Tryz.f276:=qf
def q277:Qf Tryz.f277:=qf
def q278:Qf Tryz.f278:=qf
def q279:Qf Tryz.f279:=qf
def q280:Qf Tryz.f280:=qf
def q281:Qf Tryz.f281:=qf
def q282:Qf Tryz.f282:=qf
def f218:=q218.1
def f219:=q219.1
def f220:=q220.1
def f221:=q221.1
def f222:=q222.1
def f223:=q223.1
def f224:=q224.1
def f225:=q225.1
def f226:=q226.1
def f227:=q227.1
def f228:=q228.1
def f229:=q229.1
def f230:=q230.1
def f231:=q231.1
def f232:=q232.1
def f233:=q233.1
def f234:=q234.1
def f235:=q235.1
def f236:=q236.1
def f237:=q237.1
def f238:=q238.1
def f239:=q239.1
def f240:=q240.1
def f241:=q241.1
def f242:=q242.1
def f243:=q243.1
def f244:=q244.1
def f246:=q246.1
def f247:=q247.1
def f248:=q248.1
def f249:=q249.1
def f250:=q250.1
def f251:=q251.1
def f252:=q252.1
def f253:=q253.1
def f254:=q254.1
def f255:=q255.1
def f256:=q256.1
def f257:=q257.1
def f258:=q258.1
def f259:=q259.1
def f260:=q260.1
def f261:=q261.1
def f262:=q262.1
def f263:=q263.1
def f264:=q264.1
def f265:=q265.1
def f266:=q266.1
def f267:=q267.1
def f268:=q268.1
def f270:=q270.1
def f271:=q271.1
def f272:=q272.1
def f273:=q273.1
def f274:=q274.1
def f275:=q275.1
def f276:=q276.1
def f277:=q277.1
def f278:=q278.1
def f279:=q279.1
def f280:=q280.1
def f281:=q281.1
def f282:=q282.1
end Go.Vm.C
end

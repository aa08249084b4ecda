/- A part of the proof. No condition. -/
import Derived.Test.YthnfbamnfihcaaaGreatBase
import Derived.Test.YthnfbamnfihcaaaGreatProg
import Derived.KernelRfl
import Derived.Test.YthnfbamnfihcaaaGreatCode0
set_option linter.unusedVariables false
section
noncomputable section
set_option maxRecDepth 100000
set_option maxHeartbeats 0
namespace Go.Vm.C
open Go.Proofs
def q143:Qf Tryz.f143:=qf
def q144:Qf Tryz.f144:=qf
def q145:Qf Tryz.f145:=qf
def q146:Qf Tryz.f146:=qf
def q147:Qf Tryz.f147:=qf
def q148:Qf Tryz.f148:=qf
def q149:Qf Tryz.f149:=qf
def q150:Qf Tryz.f150:=qf
def q151:Qf Tryz.f151:=qf
def q152:Qf Tryz.f152:=qf
def q153:Qf Tryz.f153:=qf
def q154:Qf Tryz.f154:=qf
def q155:Qf Tryz.f155:=qf
def q156:Qf Tryz.f156:=qf
def q157:Qf Tryz.f157:=qf
def q158:Qf Tryz.f158:=qf
def q159:Qf Tryz.f159:=qf
def q160:Qf Tryz.f160:=qf
def q161:Qf Tryz.f161:=qf
def q162:Qf Tryz.f162:=qf
def q163:Qf Tryz.f163:=qf
def q164:Qf Tryz.f164:=qf
def q165:Qf Tryz.f165:=qf
def q166:Qf Tryz.f166:=qf
def q167:Qf Tryz.f167:=qf
def q169:Qf Tryz.f169:=qf
def q170:Qf Tryz.f170:=qf
def q171:Qf Tryz.f171:=qf
def q172:Qf Tryz.f172:=qf
def q173:Qf Tryz.f173:=qf
def q174:Qf Tryz.f174:=qf
def q175:Qf Tryz.f175:=qf
def q176:Qf Tryz.f176:=qf
def q178:Qf Tryz.f178:=qf
def q179:Qf Tryz.f179:=qf
def q180:Qf Tryz.f180:=qf
def q181:Qf Tryz.f181:=qf
def q182:Qf Tryz.f182:=qf
def q183:Qf Tryz.f183:=qf
def q185:Qf Tryz.f185:=qf
def q186:Qf Tryz.f186:=qf
def q187:Qf Tryz.f187:=qf
def q188:Qf Tryz.f188:=qf
def q189:Qf Tryz.f189:=qf
def q190:Qf Tryz.f190:=qf
def q191:Qf Tryz.f191:=qf
def q192:Qf Tryz.f192:=qf
def q193:Qf Tryz.f193:=qf
def q194:Qf Tryz.f194:=qf
def q195:Qf Tryz.f195:=qf
def q196:Qf Tryz.f196:=qf
def q197:Qf Tryz.f197:=qf
def q198:Qf Tryz.f198:=qf
def q199:Qf Tryz.f199:=qf
def q200:Qf Tryz.f200:=qf
def q201:Qf Tryz.f201:=qf
def q202:Qf Tryz.f202:=qf
def q203:Qf Tryz.f203:=qf
def q204:Qf Tryz.f204:=qf
def q205:Qf Tryz.f205:=qf
def q206:Qf Tryz.f206:=qf
def q207:Qf Tryz.f207:=qf
def q208:Qf Tryz.f208:=qf
def q209:Qf Tryz.f209:=qf
def q210:Qf Tryz.f210:=qf
def q211:Qf Tryz.f211:=qf
def q212:Qf Tryz.f212:=qf
def f143:=q143.1
def f144:=q144.1
def f145:=q145.1
def f146:=q146.1
def f147:=q147.1
def f148:=q148.1
def f149:=q149.1
def f150:=q150.1
def f151:=q151.1
def f152:=q152.1
def f153:=q153.1
def f154:=q154.1
def f155:=q155.1
def f156:=q156.1
def f157:=q157.1
def f158:=q158.1
def f159:=q159.1
def f160:=q160.1
def f161:=q161.1
def f162:=q162.1
def f163:=q163.1
def f164:=q164.1
def f165:=q165.1
def f166:=q166.1
def f167:=q167.1
def f169:=q169.1
def f170:=q170.1
def f171:=q171.1
def f172:=q172.1
def f173:=q173.1
def f174:=q174.1
def f175:=q175.1
def f176:=q176.1
def f178:=q178.1
def f179:=q179.1
def f180:=q180.1
def f181:=q181.1
def f182:=q182.1
def f183:=q183.1
def f185:=q185.1
def f186:=q186.1
def f187:=q187.1
def f188:=q188.1
def f189:=q189.1
def f190:=q190.1
def f191:=q191.1
def f192:=q192.1
def f193:=q193.1
def f194:=q194.1
def f195:=q195.1
def f196:=q196.1
def f197:=q197.1
def f198:=q198.1
def f199:=q199.1
def f200:=q200.1
def f201:=q201.1
def f202:=q202.1
def f203:=q203.1
def f204:=q204.1
def f205:=q205.1
def f206:=q206.1
def f207:=q207.1
def f208:=q208.1
def f209:=q209.1
def f210:=q210.1
def f211:=q211.1
def f212:=q212.1
end Go.Vm.C
end

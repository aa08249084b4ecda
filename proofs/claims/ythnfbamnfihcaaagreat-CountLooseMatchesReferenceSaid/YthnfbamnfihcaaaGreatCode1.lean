/- A part of the proof. No condition. -/
import Derived.Test.YthnfbamnfihcaaaGreatBase
import Derived.Test.YthnfbamnfihcaaaGreatProg
import Derived.KernelRfl
import Derived.Test.YthnfbamnfihcaaaGreatCode0
set_option linter.unusedVariables false
section
noncomputable section
set_option maxRecDepth 100000
set_option maxHeartbeats 0
namespace Go.Vm.C
open Go.Proofs
def q75:Qf Tryz.f75:=qf
def q76:Qf Tryz.f76:=qf
def q77:Qf Tryz.f77:=qf
def q78:Qf Tryz.f78:=qf
def q79:Qf Tryz.f79:=qf
def q80:Qf Tryz.f80:=qf
def q81:Qf Tryz.f81:=qf
def q82:Qf Tryz.f82:=qf
def q83:Qf Tryz.f83:=qf
def q84:Qf Tryz.f84:=qf
def q85:Qf Tryz.f85:=qf
def q86:Qf Tryz.f86:=qf
def q87:Qf Tryz.f87:=qf
def q88:Qf Tryz.f88:=qf
def q89:Qf Tryz.f89:=qf
def q90:Qf Tryz.f90:=qf
def q91:Qf Tryz.f91:=qf
def q92:Qf Tryz.f92:=qf
def q93:Qf Tryz.f93:=qf
def q94:Qf Tryz.f94:=qf
def q95:Qf Tryz.f95:=qf
def q96:Qf Tryz.f96:=qf
def q97:Qf Tryz.f97:=qf
def q98:Qf Tryz.f98:=qf
def q99:Qf Tryz.f99:=qf
def q100:Qf Tryz.f100:=qf
def q102:Qf Tryz.f102:=qf
def q103:Qf Tryz.f103:=qf
def q104:Qf Tryz.f104:=qf
def q105:Qf Tryz.f105:=qf
def q106:Qf Tryz.f106:=qf
def q107:Qf Tryz.f107:=qf
def q108:Qf Tryz.f108:=qf
def q109:Qf Tryz.f109:=qf
def q110:Qf Tryz.f110:=qf
def q111:Qf Tryz.f111:=qf
def q112:Qf Tryz.f112:=qf
def q113:Qf Tryz.f113:=qf
def q114:Qf Tryz.f114:=qf
def q115:Qf Tryz.f115:=qf
def q116:Qf Tryz.f116:=qf
def q117:Qf Tryz.f117:=qf
def q118:Qf Tryz.f118:=qf
def q119:Qf Tryz.f119:=qf
def q120:Qf Tryz.f120:=qf
def q121:Qf Tryz.f121:=qf
def q122:Qf Tryz.f122:=qf
def q123:Qf Tryz.f123:=qf
def q124:Qf Tryz.f124:=qf
def q125:Qf Tryz.f125:=qf
def q126:Qf Tryz.f126:=qf
def q127:Qf Tryz.f127:=qf
def q128:Qf Tryz.f128:=qf
def q129:Qf Tryz.f129:=qf
def q130:Qf Tryz.f130:=qf
def q131:Qf Tryz.f131:=qf
def q132:Qf Tryz.f132:=qf
def q133:Qf Tryz.f133:=qf
def q134:Qf Tryz.f134:=qf
def q135:Qf Tryz.f135:=qf
def q136:Qf Tryz.f136:=qf
def q137:Qf Tryz.f137:=qf
def q138:Qf Tryz.f138:=qf
def q139:Qf Tryz.f139:=qf
def q140:Qf Tryz.f140:=qf
def q141:Qf Tryz.f141:=qf
def q142:Qf Tryz.f142:=qf
def f75:=q75.1
def f76:=q76.1
def f77:=q77.1
def f78:=q78.1
def f79:=q79.1
def f80:=q80.1
def f81:=q81.1
def f82:=q82.1
def f83:=q83.1
def f84:=q84.1
def f85:=q85.1
def f86:=q86.1
def f87:=q87.1
def f88:=q88.1
def f89:=q89.1
def f90:=q90.1
def f91:=q91.1
def f92:=q92.1
def f93:=q93.1
def f94:=q94.1
def f95:=q95.1
def f96:=q96.1
def f97:=q97.1
def f98:=q98.1
def f99:=q99.1
def f100:=q100.1
def f102:=q102.1
def f103:=q103.1
def f104:=q104.1
def f105:=q105.1
def f106:=q106.1
def f107:=q107.1
def f108:=q108.1
def f109:=q109.1
def f110:=q110.1
def f111:=q111.1
def f112:=q112.1
def f113:=q113.1
def f114:=q114.1
def f115:=q115.1
def f116:=q116.1
def f117:=q117.1
def f118:=q118.1
def f119:=q119.1
def f120:=q120.1
def f121:=q121.1
def f122:=q122.1
def f123:=q123.1
def f124:=q124.1
def f125:=q125.1
def f126:=q126.1
def f127:=q127.1
def f128:=q128.1
def f129:=q129.1
def f130:=q130.1
def f131:=q131.1
def f132:=q132.1
def f133:=q133.1
def f134:=q134.1
def f135:=q135.1
def f136:=q136.1
def f137:=q137.1
def f138:=q138.1
def f139:=q139.1
def f140:=q140.1
def f141:=q141.1
def f142:=q142.1
end Go.Vm.C
end

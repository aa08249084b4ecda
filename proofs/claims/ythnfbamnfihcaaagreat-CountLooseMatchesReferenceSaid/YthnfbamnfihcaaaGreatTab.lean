/- A part of the proof. No condition. -/
import Derived.Test.YthnfbamnfihcaaaGreatCode0
import Derived.Test.YthnfbamnfihcaaaGreatCode1
import Derived.Test.YthnfbamnfihcaaaGreatCode2
import Derived.Test.YthnfbamnfihcaaaGreatCode3
set_option linter.unusedVariables false
section



end
section
set_option maxRecDepth 100000
noncomputable section
namespace Go.Vm.C
abbrev tN (l:Tr Gq) (x:Gq) (r:Tr Gq):Tr Gq:=.n l (some x) r
abbrev tF (x:Gq):Tr Gq:=.n .z (some x) .z
def tab:Tr Gq:=(.n (.n (tN (tN (tN (tN (tN (tN (tF f255) f127 .z) f63 (tF f191)) f31 (tN (tF f159) f95 (tF f223))) f15 (tN (tN (tN (tF f271) f143 .z) f79 (tF f207)) f47 (tN (tF f175) f111 (tF f239)))) f7 (tN (tN (tN (tN (tF f263) f135 .z) f71 (tF f199)) f39 (tN (tF f167) f103 (tF f231))) f23 (tN (tN (tN (tF f279) f151 .z) f87 (tF f215)) f55 (tN (tF f183) f119 (tF f247))))) f3 (tN (tN (tN (tN (tN (tF f259) f131 .z) f67 (tF f195)) f35 (tN (tF f163) f99 (tF f227))) f19 (tN (tN (tN (tF f275) f147 .z) f83 (tF f211)) f51 (tN (tF f179) f115 (tF f243)))) f11 (tN (tN (tN (tN (tF f267) f139 .z) f75 (tF f203)) f43 (tN (tF f171) f107 (tF f235))) f27 (tN (tN (tF f155) f91 (tF f219)) f59 (tN (tF f187) f123 (tF f251)))))) none (tN (tN (tN (tN (tN (tN (tF f257) f129 .z) f65 (tF f193)) f33 (tN (tF f161) f97 (tF f225))) f17 (tN (tN (tN (tF f273) f145 .z) f81 (tF f209)) f49 (tN (tF f177) f113 (tF f241)))) f9 (tN (tN (tN (tN (tF f265) f137 .z) f73 (tF f201)) f41 (tN (tF f169) f105 (tF f233))) f25 (tN (tN (tN (tF f281) f153 .z) f89 (tF f217)) f57 (tN (tF f185) f121 (tF f249))))) f5 (tN (tN (tN (tN (tN (tF f261) f133 .z) f69 (tF f197)) f37 (.n (tF f165) none (tF f229))) f21 (tN (tN (tN (tF f277) f149 .z) f85 (tF f213)) f53 (tN (tF f181) f117 (tF f245)))) f13 (tN (tN (tN (tN (tF f269) f141 .z) f77 (tF f205)) f45 (tN (tF f173) f109 (tF f237))) f29 (tN (tN (tF f157) f93 (tF f221)) f61 (tN (tF f189) f125 (tF f253))))))) none (.n (tN (tN (tN (tN (tN (tN (tF f256) f128 .z) f64 (tF f192)) f32 (tN (tF f160) f96 (tF f224))) f16 (tN (tN (tN (tF f272) f144 .z) f80 (tF f208)) f48 (tN (tF f176) f112 (tF f240)))) f8 (tN (tN (tN (tN (tF f264) f136 .z) f72 (tF f200)) f40 (tN (tF f168) f104 (tF f232))) f24 (tN (tN (tN (tF f280) f152 .z) f88 (tF f216)) f56 (tN (tF f184) f120 (tF f248))))) f4 (tN (tN (tN (tN (tN (tF f260) f132 .z) f68 (tF f196)) f36 (tN (tF f164) f100 (tF f228))) f20 (tN (tN (tN (tF f276) f148 .z) f84 (tF f212)) f52 (tN (tF f180) f116 (tF f244)))) f12 (tN (tN (tN (tN (tF f268) f140 .z) f76 (tF f204)) f44 (tN (tF f172) f108 (tF f236))) f28 (tN (tN (tF f156) f92 (tF f220)) f60 (tN (tF f188) f124 (tF f252)))))) none (tN (tN (tN (tN (tN (tN (tF f258) f130 .z) f66 (tF f194)) f34 (tN (tF f162) f98 (tF f226))) f18 (tN (tN (tN (tF f274) f146 .z) f82 (tF f210)) f50 (tN (tF f178) f114 (tF f242)))) f10 (tN (tN (tN (tN (tF f266) f138 .z) f74 (tF f202)) f42 (tN (tF f170) f106 (tF f234))) f26 (tN (tN (tN (tF f282) f154 .z) f90 (tF f218)) f58 (tN (tF f186) f122 (tF f250))))) f6 (tN (tN (tN (tN (tN (tF f262) f134 .z) f70 (tF f198)) f38 (tN (tF f166) f102 (tF f230))) f22 (tN (tN (tN (tF f278) f150 .z) f86 (tF f214)) f54 (tN (tF f182) f118 (tF f246)))) f14 (tN (tN (tN (tN (tF f270) f142 .z) f78 (tF f206)) f46 (tN (tF f174) f110 (tF f238))) f30 (tN (tN (tF f158) f94 (tF f222)) f62 (tN (tF f190) f126 (tF f254))))))))
end Go.Vm.C
end

/- A part of the proof that the law CountLooseRanks answers true. No condition. -/
import Derived.Test.YthnfbamnfihcaaaGreatBase
import Derived.Test.YthnfbamnfihcaaaGreatProg
import Derived.KernelRfl
set_option linter.unusedVariables false
set_option linter.unusedSimpArgs false
set_option linter.unusedSectionVars false
section
noncomputable section
set_option maxRecDepth 100000
set_option maxHeartbeats 0
namespace Go.Vm.C
open Go.Proofs
abbrev Qf (f:Func):={x:El // lN Tryz.prog f=some x}
def qf {f:Func} {x:El} (h:lN Tryz.prog f=some x:=by conv=>lhs;reduce;try dsimp only):Qf f:=⟨x,h⟩
def q4:Qf Tryz.f4:=qf
def q5:Qf Tryz.f5:=qf
def q6:Qf Tryz.f6:=qf
def q7:Qf Tryz.f7:=qf
def q9:Qf Tryz.f9:=qf
def q10:Qf Tryz.f10:=qf
def q12:Qf Tryz.f12:=qf
def q14:Qf Tryz.f14:=qf
def q15:Qf Tryz.f15:=qf
def q18:Qf Tryz.f18:=qf
def q20:Qf Tryz.f20:=qf
def q21:Qf Tryz.f21:=qf
def q22:Qf Tryz.f22:=qf
def q23:Qf Tryz.f23:=qf
def q24:Qf Tryz.f24:=qf
def q25:Qf Tryz.f25:=qf
def q26:Qf Tryz.f26:=qf
def q27:Qf Tryz.f27:=qf
def q28:Qf Tryz.f28:=qf
def q29:Qf Tryz.f29:=qf
def q30:Qf Tryz.f30:=qf
def q31:Qf Tryz.f31:=qf
def q32:Qf Tryz.f32:=qf
def q33:Qf Tryz.f33:=qf
def q34:Qf Tryz.f34:=qf
def q35:Qf Tryz.f35:=qf
def q36:Qf Tryz.f36:=qf
def q37:Qf Tryz.f37:=qf
def q38:Qf Tryz.f38:=qf
def q39:Qf Tryz.f39:=qf
def q40:Qf Tryz.f40:=qf
def q41:Qf Tryz.f41:=qf
def q42:Qf Tryz.f42:=qf
def q43:Qf Tryz.f43:=qf
def q46:Qf Tryz.f46:=qf
def q49:Qf Tryz.f49:=qf
def q50:Qf Tryz.f50:=qf
def q51:Qf Tryz.f51:=qf
def q52:Qf Tryz.f52:=qf
def q53:Qf Tryz.f53:=qf
def q54:Qf Tryz.f54:=qf
def q55:Qf Tryz.f55:=qf
def q59:Qf Tryz.f59:=qf
def q61:Qf Tryz.f61:=qf
def q62:Qf Tryz.f62:=qf
def q63:Qf Tryz.f63:=qf
def q64:Qf Tryz.f64:=qf
def q65:Qf Tryz.f65:=qf
def q66:Qf Tryz.f66:=qf
def q68:Qf Tryz.f68:=qf
def q69:Qf Tryz.f69:=qf
def q70:Qf Tryz.f70:=qf
def q71:Qf Tryz.f71:=qf
def q72:Qf Tryz.f72:=qf
def q73:Qf Tryz.f73:=qf
def q74:Qf Tryz.f74:=qf
def q75:Qf Tryz.f75:=qf
def q76:Qf Tryz.f76:=qf
def q77:Qf Tryz.f77:=qf
def q78:Qf Tryz.f78:=qf
def q79:Qf Tryz.f79:=qf
def q80:Qf Tryz.f80:=qf
def f17:El:=⟨[.tmp k4],S (L [mc k4 cf]) (S (S (L [m k6 k0,a k7 (.lens) k6,m k8 k1,a k9 (.lens) k8,bi k10 .neq k7 k9]) (.cond k10 (S (L [mc k4 cf]) (.ret)) (.skip))) (S (S (L [mc k5 (ci 0)]) (.block 0 (.loop (S (S (L [m k11 k5,m k12 k0,a k13 (.lens) k12,bi k14 .lss k11 k13]) (.cond k14 (.skip) (.exit 0))) (S (.block 1 (S (.drawn [⟨m k17 k0,0⟩,⟨m k18 k5,0⟩,⟨ix k19 4 k17 k18,0⟩,⟨a k20 (.B5 4) k19,0⟩,⟨m k21 k1,0⟩,⟨m k22 k5,0⟩,⟨ix k23 4 k21 k22,0⟩,⟨a k24 (.B5 4) k23,0⟩,⟨o k25 (.eq true (.agg [.int,.int,.int,.int])) [k20,k24],0⟩]) (.cond k25 (S (L [mc k4 cf]) (.ret)) (.skip)))) (L [m k15 k5,bi k16 .add k15 (ci 1),m k5 k16])))))) (S (L [mc k4 ct]) (.ret))))⟩
def q17:Qf Tryz.f17:=⟨f17,by kernel_rfl⟩
def f48:El:=⟨[.tmp k4],S (L [a k2 (.box 2) k0,a k3 (.box 2) k1,mc k4 cf]) (S (S (L [fa k6 1 k2,l k7 k6,fa k8 1 k3,l k9 k8,bi k10 .neq k7 k9,m k11 k10,g k12 (.B8 0) [k2] k11 false,g k13 .Bm [k12] k11 false,g k14 .lens [k13] k11 false,g k15 (.B8 0) [k3] k11 false,g k16 .Bm [k15] k11 false,g k17 .lens [k16] k11 false,g k18 (.bin .neq) [k14,k17] k11 false,o k19 (.pick) [k11,ct,k18]]) (.cond k19 (S (L [mc k4 cf]) (.ret)) (.skip))) (S (S (L [mc k5 (ci 0)]) (.block 0 (.loop (S (S (L [m k20 k5,fa k21 0 k2,l k22 k21,a k23 (.lens) k22,bi k24 .lss k20 k23]) (.cond k24 (.skip) (.exit 0))) (S (.block 1 (S (.drawn [⟨fa k27 0 k2,0⟩,⟨l k28 k27,0⟩,⟨m k29 k5,0⟩,⟨ix k30 3 k28 k29,0⟩,⟨a k31 (.B5 3) k30,0⟩,⟨fa k32 0 k3,0⟩,⟨l k33 k32,0⟩,⟨m k34 k5,0⟩,⟨ix k35 3 k33 k34,0⟩,⟨a k36 (.B5 3) k35,0⟩,⟨o k37 (.eq true (.agg [.int,.int,.int])) [k31,k36],0⟩]) (.cond k37 (S (L [mc k4 cf]) (.ret)) (.skip)))) (L [m k25 k5,bi k26 .add k25 (ci 1),m k5 k26])))))) (S (L [mc k4 ct]) (.ret))))⟩
def q48:Qf Tryz.f48:=⟨f48,by kernel_rfl⟩
def f58:El:=⟨[.tmp k7],S (L [a k6 (.box 2) k0,mc k7 (.c (.v (.s .Dv)))]) (S (L [o k24 (.Oi) [],m k8 k24]) (S (L [fa k25 0 k1,l k26 k25,fa k27 0 k6,l k28 k27,ix k29 5 k26 k28,a k30 (.B5 5) k29,o k9 (.Fg [(.int .i64 (.ofNat 0)),(.int .i64 (.ofNat 0)),(.int .i64 (.ofNat 0)),(.int .i64 (.ofNat 0)),.Af]) [],st 5 k9 k30]) (S (L [mc k10 cs]) (S (S (L [fa k31 4 k9,l k32 k31,a k33 (.lens) k32,mc k34 (ci 0)]) (.block 0 (.loop (S (L [bi k35 .lss k34 k33]) (S (.cond k35 (.skip) (.exit 0)) (S (.block 1 (S (L [ix k36 4 k32 k34,a k37 (.B5 4) k36,o k12 (.Fg [(.int .i64 (.ofNat 0)),.Af,.Af,(.int .i64 (.ofNat 0))]) [],st 4 k12 k37]) (S (S (L [fa k38 2 k12,a k39 (.B5 2) k38,l k40 k2,c k41 59 [k39,k40],a k42 (.un .not) k41]) (.cond k42 (.exit 1) (.skip))) (S (S (.drawn [⟨fa k43 1 k6,0⟩,⟨l k44 k43,0⟩,⟨l k45 k3,0⟩,⟨a k46 (.lens) k45,0⟩,⟨bi k47 .lss k44 k46,0⟩,⟨m k48 k47,0⟩,⟨g k49 .Bm [k3] k48 true,0⟩,⟨g k50 (.B8 1) [k6] k48 true,0⟩,⟨g k51 .Bm [k50] k48 true,0⟩,⟨g k52 (.isl 4) [k49,k51] k48 true,0⟩,⟨g k53 (.B5 4) [k52] k48 true,0⟩,⟨g k54 (.B8 0) [k12] k48 true,0⟩,⟨g k55 .Bm [k54] k48 true,0⟩,⟨g k56 (.B8 1) [k9] k48 true,0⟩,⟨g k57 .Bm [k56] k48 true,0⟩,⟨g k58 (.B8 2) [k9] k48 true,0⟩,⟨g k59 .Bm [k58] k48 true,0⟩,⟨⟨(some k60),.op (.build [(.int .i64 (.ofNat 0)),(.int .i64 (.ofNat 0)),(.int .i64 (.ofNat 0)),(.int .i64 (.ofNat 0))] [(0,1),(1,1),(2,1),(3,1)]),[k55,(.c (.v (.s (.int .i64 (.negSucc 0))))),k57,k59],(some (k48,true))⟩,0⟩,⟨⟨(some k61),.op (.eq false (.agg [.int,.int,.int,.int])),[k53,k60],(some (k48,true))⟩,0⟩,⟨o k62 (.pick) [k48,k61,cf],0⟩]) (.cond k62 (S (L [o k63 (.Oi) [],fa k64 1 k6,l k65 k64,bi k66 .add k65 (ci 1),⟨none,.op (.Gq (.one .int)),[k63,k66,cs],none⟩,m k67 k63,m k13 k67]) (S (S (L [fa k68 1 k12,l k69 k68,a k70 (.lens) k69,mc k71 (ci 0)]) (.block 2 (.loop (S (L [bi k72 .lss k71 k70]) (S (.cond k72 (.skip) (.exit 2)) (S (.block 3 (S (L [ix k73 4 k69 k71,a k74 (.B5 4) k73,o k15 (.Fg [(.int .i64 (.ofNat 0)),(.int .i64 (.ofNat 0)),(.int .i64 (.ofNat 0)),(.int .i64 (.ofNat 0))]) [],st 4 k15 k74]) (S (L [o k75 (.Oi) [],m k16 k75]) (S (S (L [m k76 k13,a k77 (.Hd) k76]) (.block 4 (.loop (S (L [a k78 (.Md) k77,a k79 (.extract 0) k78]) (S (.cond k79 (.skip) (.exit 4)) (.block 5 (S (L [a k80 (.He) k77,a k81 (.extract 0) k80,a k82 (.extract 1) k80,m k17 k81,m k18 k82]) (S (L [o k83 (.Oi) [],m k19 k83]) (S (S (L [fa k84 0 k15,l k85 k84,bi k86 .geq k85 (ci 0)]) (.cond k86 (L [l k87 k4,fa k88 0 k15,l k89 k88,m k90 k17,o k91 (.build [(.int .i64 (.ofNat 0)),(.int .i64 (.ofNat 0))] [(0,1),(1,1)]) [k89,k90],c k92 60 [k87,k91],m k19 k92]) (S (.drawn [⟨m k93 k17,0⟩,⟨l k94 k3,0⟩,⟨a k95 (.lens) k94,0⟩,⟨bi k96 .lss k93 k95,0⟩,⟨m k97 k96,0⟩,⟨g k98 .Bm [k3] k97 true,0⟩,⟨g k99 .mov [k17] k97 true,0⟩,⟨g k100 (.isl 4) [k98,k99] k97 true,0⟩,⟨g k101 (.B5 4) [k100] k97 true,0⟩,⟨g k102 (.B8 1) [k15] k97 true,0⟩,⟨g k103 .Bm [k102] k97 true,0⟩,⟨g k104 (.B8 2) [k15] k97 true,0⟩,⟨g k105 .Bm [k104] k97 true,0⟩,⟨g k106 (.B8 3) [k15] k97 true,0⟩,⟨g k107 .Bm [k106] k97 true,0⟩,⟨⟨(some k108),.op (.build [(.int .i64 (.ofNat 0)),(.int .i64 (.ofNat 0)),(.int .i64 (.ofNat 0)),(.int .i64 (.ofNat 0))] [(0,1),(1,1),(2,1),(3,1)]),[(.c (.v (.s (.int .i64 (.negSucc 0))))),k103,k105,k107],(some (k97,true))⟩,0⟩,⟨⟨(some k109),.op (.eq false (.agg [.int,.int,.int,.int])),[k101,k108],(some (k97,true))⟩,0⟩,⟨o k110 (.pick) [k97,k109,cf],0⟩]) (.cond k110 (L [m k111 k19,m k112 k17,bi k113 .add k112 (ci 1),⟨none,.op (.Gq (.one .int)),[k111,k113,cs],none⟩]) (.skip))))) (S (L [m k114 k19,a k115 (.Hd) k114]) (.block 6 (.loop (S (L [a k116 (.Md) k115,a k117 (.extract 0) k116]) (S (.cond k117 (.skip) (.exit 6)) (.block 7 (S (L [a k118 (.He) k115,a k119 (.extract 0) k118,a k120 (.extract 1) k118,m k20 k119,m k21 k120]) (.drawn [⟨l k126 k5,0⟩,⟨a k127 (.B5 4) k15,0⟩,⟨c k128 64 [k126,k127],0⟩,⟨l k124 k5,0⟩,⟨m k125 k18,0⟩,⟨c k129 63 [k124,k125,k128],1⟩,⟨l k123 k5,0⟩,⟨m k130 k21,0⟩,⟨c k131 62 [k123,k129,k130],2⟩,⟨m k121 k16,0⟩,⟨m k122 k20,0⟩,⟨c k132 61 [k121,k122,k131],3⟩]))))))))))))))))) (L [m k133 k16,m k13 k133]))))) (L [bi k134 .add k71 (ci 1),m k71 k134]))))))) (S (L [m k135 k13,a k136 (.Hd) k135]) (.block 8 (.loop (S (L [a k137 (.Md) k136,a k138 (.extract 0) k137]) (S (.cond k138 (.skip) (.exit 8)) (.block 9 (S (L [a k139 (.He) k136,a k140 (.extract 0) k139,a k141 (.extract 1) k139,m k22 k140,m k23 k141]) (L [m k142 k8,m k143 k22,l k144 k5,m k145 k10,m k146 k23,c k147 62 [k144,k145,k146],c k148 61 [k142,k143,k147]])))))))))) (.skip))) (.drawn [⟨l k151 k5,0⟩,⟨a k152 (.B5 4) k12,0⟩,⟨c k153 65 [k151,k152],0⟩,⟨l k149 k5,0⟩,⟨m k150 k10,0⟩,⟨c k154 62 [k149,k150,k153],1⟩,⟨m k10 k154,2⟩]))))) (L [bi k155 .add k34 (ci 1),m k34 k155]))))))) (S (L [m k156 k8,m k7 k156]) (.ret))))))⟩
def q58:Qf Tryz.f58:=⟨f58,by kernel_rfl⟩
def f60:El:=⟨[.tmp k4],S (L [a k3 (.box 2) k1,mc k4 (.c (.v (.s .Dv)))]) (S (S (.drawn [⟨m k9 k0,0⟩,⟨a k10 (.Gp) k9,0⟩,⟨fa k11 0 k10,0⟩,⟨l k12 k11,0⟩,⟨a k13 (.B5 2) k3,0⟩,⟨o k14 (.lookup (.agg [.int,.int]) (.s .Dv) true) [k12,k13],0⟩,⟨m k8 k14,0⟩,⟨a k15 (.extract 0) k8,0⟩,⟨a k16 (.extract 1) k8,0⟩,⟨m k5 k15,0⟩,⟨m k6 k16,0⟩]) (S (L [m k17 k6]) (.cond k17 (S (L [m k18 k5,m k4 k18]) (.ret)) (.skip)))) (S (.drawn [⟨m k19 k0,0⟩,⟨a k20 (.Gp) k19,0⟩,⟨fa k21 1 k20,0⟩,⟨l k22 k21,0⟩,⟨a k23 (.B5 2) k3,0⟩,⟨⟨(some k24),.Ge,[k22,k23],none⟩,0⟩,⟨m k7 k24,1⟩]) (S (.drawn [⟨m k25 k0,0⟩,⟨a k26 (.Gp) k25,0⟩,⟨fa k27 0 k26,0⟩,⟨l k28 k27,0⟩,⟨a k29 (.B5 2) k3,0⟩,⟨m k30 k7,0⟩,⟨⟨none,.op (.Gq (.agg [.int,.int])),[k28,k29,k30],none⟩,0⟩]) (S (L [m k31 k7,m k4 k31]) (.ret)))))⟩
def q60:Qf Tryz.f60:=⟨f60,by kernel_rfl⟩
def f168:El:=⟨[.tmp k4],S (L [mc k4 cf]) (S (S (L [m k6 k0,a k7 (.lens) k6,m k8 k1,a k9 (.lens) k8,bi k10 .neq k7 k9]) (.cond k10 (S (L [mc k4 cf]) (.ret)) (.skip))) (S (S (L [m k11 k0,a k12 (.lens) k11,mc k13 (ci 0)]) (.block 0 (.loop (S (L [bi k14 .lss k13 k12]) (S (.cond k14 (.skip) (.exit 0)) (S (.block 1 (S (L [m k15 k13,m k5 k15]) (S (.drawn [⟨m k16 k0,0⟩,⟨m k17 k5,0⟩,⟨ix k18 3 k16 k17,0⟩,⟨a k19 (.B5 3) k18,0⟩,⟨m k20 k1,0⟩,⟨m k21 k5,0⟩,⟨ix k22 3 k20 k21,0⟩,⟨a k23 (.B5 3) k22,0⟩,⟨o k24 (.eq true (.agg [.int,.int,.int])) [k19,k23],0⟩]) (.cond k24 (S (L [mc k4 cf]) (.ret)) (.skip))))) (L [bi k25 .add k13 (ci 1),m k13 k25]))))))) (S (L [mc k4 ct]) (.ret))))⟩
def q168:Qf Tryz.f168:=⟨f168,by kernel_rfl⟩
def f177:El:=⟨[.tmp k4],S (L [a k2 (.box 2) k0,mc k4 cf]) (S (L [fa k7 0 k2,l k8 k7,m k9 k1,ix k10 3 k8 k9,a k11 (.B5 3) k10,o k5 (.Fg [(.int .i64 (.ofNat 0)),(.int .i64 (.ofNat 0)),(.int .i64 (.ofNat 0))]) [],st 3 k5 k11]) (S (S (L [fa k12 0 k5,l k13 k12,bi k14 .lss k13 (ci 0),m k15 k14,g k16 (.B8 0) [k5] k15 false,g k17 .Bm [k16] k15 false,g k18 (.bin .gtr) [k17,(ci 63)] k15 false,o k19 (.pick) [k15,ct,k18],m k20 k19,g k21 (.B8 1) [k5] k20 false,g k22 .Bm [k21] k20 false,g k23 (.bin .lss) [k22,(ci 0)] k20 false,o k24 (.pick) [k20,ct,k23],m k25 k24,g k26 (.B8 2) [k5] k25 false,g k27 .Bm [k26] k25 false,g k28 (.bin .lss) [k27,(ci 0)] k25 false,o k29 (.pick) [k25,ct,k28],m k30 k29,g k31 (.B8 1) [k5] k30 false,g k32 .Bm [k31] k30 false,g k33 .mov [k1] k30 false,g k34 (.bin .add) [k33,(ci 2)] k30 false,g k35 (.bin .geq) [k32,k34] k30 false,o k36 (.pick) [k30,ct,k35],m k37 k36,g k38 (.B8 2) [k5] k37 false,g k39 .Bm [k38] k37 false,g k40 .mov [k1] k37 false,g k41 (.bin .add) [k40,(ci 2)] k37 false,g k42 (.bin .geq) [k39,k41] k37 false,o k43 (.pick) [k37,ct,k42],m k44 k43,g k45 (.B8 1) [k5] k44 false,g k46 .Bm [k45] k44 false,g k47 (.B8 2) [k5] k44 false,g k48 .Bm [k47] k44 false,g k49 (.bin .eql) [k46,k48] k44 false,o k50 (.pick) [k44,ct,k49]]) (.cond k50 (S (L [mc k4 cf]) (.ret)) (.skip))) (S (S (.drawn [⟨a k51 (.B5 2) k2,0⟩,⟨fa k52 1 k5,0⟩,⟨l k53 k52,0⟩,⟨c k54 220 [k51,k53],0⟩,⟨fa k55 0 k5,0⟩,⟨l k56 k55,0⟩,⟨bi k57 .leq k54 k56,1⟩,⟨m k58 k57,1⟩,⟨g k59 (.B5 2) [k2] k58 false,1⟩,⟨g k60 (.B8 2) [k5] k58 false,1⟩,⟨g k61 .Bm [k60] k58 false,1⟩,⟨⟨(some k62),.call 220,[k59,k61],(some (k58,false))⟩,1⟩,⟨g k63 (.B8 0) [k5] k58 false,1⟩,⟨g k64 .Bm [k63] k58 false,1⟩,⟨g k65 (.bin .leq) [k62,k64] k58 false,2⟩,⟨o k66 (.pick) [k58,ct,k65],2⟩]) (.cond k66 (S (L [mc k4 cf]) (.ret)) (.skip))) (S (S (L [mc k6 (ci 0)]) (.block 0 (.loop (S (S (L [m k67 k6,m k68 k1,bi k69 .lss k67 k68]) (.cond k69 (.skip) (.exit 0))) (S (.block 1 (S (.drawn [⟨fa k72 0 k2,0⟩,⟨l k73 k72,0⟩,⟨m k74 k6,0⟩,⟨ix k75 3 k73 k74,0⟩,⟨a k76 (.B5 3) k75,0⟩,⟨a k77 (.B5 3) k5,0⟩,⟨o k78 (.eq false (.agg [.int,.int,.int])) [k76,k77],0⟩]) (.cond k78 (S (L [mc k4 cf]) (.ret)) (.skip)))) (L [m k70 k6,bi k71 .add k70 (ci 1),m k6 k71])))))) (S (L [mc k4 ct]) (.ret))))))⟩
def q177:Qf Tryz.f177:=⟨f177,by kernel_rfl⟩
def f245:El:=⟨[.tmp k4,.tmp k5],S (L [a k3 (.box 3) k1,mc k4 cs,mc k5 (ci 0)]) (S (S (L [fa k7 1 k3,l k8 k7,fa k9 2 k3,l k10 k9,bi k11 .eql k8 k10]) (.cond k11 (S (.drawn [⟨m k12 k0,0⟩,⟨fa k13 1 k3,0⟩,⟨l k14 k13,0⟩,⟨m k4 k12,0⟩,⟨m k5 k14,0⟩]) (.ret)) (.skip))) (S (S (L [mc k6 (ci 0)]) (.block 0 (.loop (S (S (L [m k15 k6,m k16 k0,a k17 (.lens) k16,bi k18 .lss k15 k17]) (.cond k18 (.skip) (.exit 0))) (S (.block 1 (S (.drawn [⟨m k21 k0,0⟩,⟨m k22 k6,0⟩,⟨ix k23 3 k21 k22,0⟩,⟨a k24 (.B5 3) k23,0⟩,⟨a k25 (.B5 3) k3,0⟩,⟨o k26 (.eq false (.agg [.int,.int,.int])) [k24,k25],0⟩]) (.cond k26 (S (L [m k27 k0,m k28 k6,bi k29 .add k28 (ci 2),m k4 k27,m k5 k29]) (.ret)) (.skip)))) (L [m k19 k6,bi k20 .add k19 (ci 1),m k6 k20])))))) (S (L [m k30 k0,a k31 (.B5 3) k3,a k32 (.Gn 3 1 [(.int .i64 (.ofNat 0)),(.int .i64 (.ofNat 0)),(.int .i64 (.ofNat 0))] [(0,3)]) k31,o k33 (.append 3 24) [k30,k32],m k0 k33]) (S (L [m k34 k0,m k35 k0,a k36 (.lens) k35,bi k37 .add k36 (ci 1),m k4 k34,m k5 k37]) (.ret)))))⟩
def q245:Qf Tryz.f245:=⟨f245,by kernel_rfl⟩
def f269:El:=⟨[.tmp k2],S (L [a k1 (.box 13) k0,mc k2 cf]) (S (S (L [fa k3 2 k1,l k4 k3,a k5 (.lens) k4,bi k6 .neq k5 (ci 3),m k7 k6,g k8 (.B8 6) [k1] k7 false,g k9 .Bm [k8] k7 false,g k10 (.bin .neq) [k9,(ci 0)] k7 false,o k11 (.pick) [k7,ct,k10],m k12 k11,g k13 (.B8 7) [k1] k12 false,g k14 .Bm [k13] k12 false,g k15 .lens [k14] k12 false,g k16 (.bin .gtr) [k15,(ci 0)] k12 false,o k17 (.pick) [k12,ct,k16],m k18 k17,g k19 (.B8 8) [k1] k18 false,g k20 (.B5 5) [k19] k18 false,⟨(some k21),.op (.build [(.bool false),(.int .i64 (.ofNat 0)),(.int .i64 (.ofNat 0)),(.int .i64 (.ofNat 0)),(.int .i64 (.ofNat 0))] []),[],(some (k18,false))⟩,⟨(some k22),.op (.eq true (.agg [.bool,.int,.int,.int,.int])),[k20,k21],(some (k18,false))⟩,o k23 (.pick) [k18,ct,k22]]) (.cond k23 (S (L [mc k2 cf]) (.ret)) (.skip))) (S (.drawn [⟨fa k24 2 k1,0⟩,⟨l k25 k24,0⟩,⟨o k26 (.isl 2) [k25,(ci 0)],0⟩,⟨fa k27 0 k26,0⟩,⟨l k28 k27,0⟩,⟨m k29 k28,0⟩,⟨g k30 (.B8 2) [k1] k29 true,0⟩,⟨g k31 .Bm [k30] k29 true,0⟩,⟨g k32 (.isl 2) [k31,(ci 2)] k29 true,0⟩,⟨g k33 (.B8 0) [k32] k29 true,0⟩,⟨g k34 .Bm [k33] k29 true,0⟩,⟨o k35 (.pick) [k29,k34,cf],0⟩,⟨m k36 k35,0⟩,⟨g k37 (.B8 2) [k1] k36 true,0⟩,⟨g k38 .Bm [k37] k36 true,0⟩,⟨g k39 (.isl 2) [k38,(ci 1)] k36 true,0⟩,⟨g k40 (.B8 0) [k39] k36 true,0⟩,⟨g k41 .Bm [k40] k36 true,0⟩,⟨g k42 (.un .not) [k41] k36 true,0⟩,⟨o k43 (.pick) [k36,k42,cf],0⟩,⟨m k44 k43,0⟩,⟨g k45 (.B8 2) [k1] k44 true,0⟩,⟨g k46 .Bm [k45] k44 true,0⟩,⟨g k47 (.isl 2) [k46,(ci 1)] k44 true,0⟩,⟨g k48 (.B8 1) [k47] k44 true,0⟩,⟨g k49 .Bm [k48] k44 true,0⟩,⟨g k50 (.B8 1) [k1] k44 true,0⟩,⟨g k51 .Bm [k50] k44 true,0⟩,⟨g k52 (.bin .eql) [k49,k51] k44 true,0⟩,⟨o k53 (.pick) [k44,k52,cf],0⟩,⟨m k2 k53,0⟩]) (.ret)))⟩
def q269:Qf Tryz.f269:=⟨f269,by kernel_rfl⟩
def f4:=q4.1
def f5:=q5.1
def f6:=q6.1
def f7:=q7.1
def f9:=q9.1
def f10:=q10.1
def f12:=q12.1
def f14:=q14.1
def f15:=q15.1
def f18:=q18.1
def f20:=q20.1
def f21:=q21.1
def f22:=q22.1
def f23:=q23.1
def f24:=q24.1
def f25:=q25.1
def f26:=q26.1
def f27:=q27.1
def f28:=q28.1
def f29:=q29.1
def f30:=q30.1
def f31:=q31.1
def f32:=q32.1
def f33:=q33.1
def f34:=q34.1
def f35:=q35.1
def f36:=q36.1
def f37:=q37.1
def f38:=q38.1
def f39:=q39.1
def f40:=q40.1
def f41:=q41.1
def f42:=q42.1
def f43:=q43.1
def f46:=q46.1
def f49:=q49.1
def f50:=q50.1
def f51:=q51.1
def f52:=q52.1
def f53:=q53.1
def f54:=q54.1
def f55:=q55.1
def f59:=q59.1
def f61:=q61.1
def f62:=q62.1
def f63:=q63.1
def f64:=q64.1
def f65:=q65.1
def f66:=q66.1
def f68:=q68.1
def f69:=q69.1
def f70:=q70.1
def f71:=q71.1
def f72:=q72.1
def f73:=q73.1
def f74:=q74.1
def f75:=q75.1
def f76:=q76.1
def f77:=q77.1
def f78:=q78.1
def f79:=q79.1
def f80:=q80.1
end Go.Vm.C
end

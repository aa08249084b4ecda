/- A part of the proof that the law CountLooseRanks answers true. No condition. -/
import Derived.Test.YthnfbamnfihcaaaGreatPart1
import Derived.Test.YthnfbamnfihcaaaGreatRuna
import Derived.Test.YthnfbamnfihcaaaGreatRunb
import Derived.Test.YthnfbamnfihcaaaGreatRunc
import Derived.Test.YthnfbamnfihcaaaGreatRund
import Derived.Test.YthnfbamnfihcaaaGreatRune
import Derived.Test.YthnfbamnfihcaaaGreatRunz
set_option linter.unusedVariables false
set_option linter.unusedSimpArgs false
set_option linter.unusedSectionVars false
section
noncomputable section
set_option maxRecDepth 100000
namespace Go.Pv.E2
open Go.Vm Go.Pv.K
theorem Bg {t:Tr Ent} {f:Nat} (ht:Ot F0 t):∀(n:Nat) (e:Ent),chk t f n e=true→Bj F0 f (e.drop n)→Bj F0 f e
 |0,_,_,h=>h
 |_+1,[],_,h=>h
 |n+1,(xs,r)::l,h,ho=>by
  obtain⟨h1,h2⟩:=Fl (c:=runK F0 (known GC t) 1000000 f xs (fun v=>eqA v r)) (a:=chk t f n l) h
  exact .cons (entry ht h1) (Bg ht n l h2 ho)
theorem G6:Ot F0 t0:=trivial
theorem n0 {P:Ent→Prop}:∀x,(none:Option Ent)=some x→P x:=fun _ e=>by cases e
theorem n1 {P:Ent→Prop} {l:Ent} (h:P l):∀x,some l=some x→P x:=fun _ e=>by cases e;exact h
theorem Hq:Bj F0 264 Lu:=Bg G6 15 Lu GF (.nil _ _)
theorem Hr:Bj F0 178 Lv:=Bg G6 10 Lv GG (.nil _ _)
theorem Ki:Bj F0 48 Se:=Bg G6 2 Se LU (.nil _ _)
theorem Hs:Bj F0 273 Lw:=Bg G6 3 Lw GH (.nil _ _)
theorem Ht:Bj F0 252 Lx:=Bg G6 1 Lx GI (.nil _ _)
theorem Hu:Bj F0 253 Ly:=Bg G6 1 Ly GJ (.nil _ _)
theorem Hv:Bj F0 255 Lz:=Bg G6 1 Lz GK (.nil _ _)
theorem Ri:Bj F0 256 Td:=Bg G6 1 Td GL (.nil _ _)
theorem Hw:Bj F0 258 L4:=Bg G6 2 L4 GM (.nil _ _)
theorem Kj:Bj F0 54 Sf:=Bg G6 4 Sf LV (.nil _ _)
theorem Hx:Bj F0 104 L5:=Bg G6 2 L5 GN (.nil _ _)
theorem Hy:Bj F0 261 L6:=Bg G6 10 L6 GO (.nil _ _)
theorem Hz:Bj F0 159 L7:=Bg G6 124 L7 GP (.nil _ _)
theorem H0:Bj F0 262 L8:=Bg G6 88 L8 GQ (.nil _ _)
theorem H2:Bj F0 156 L9:=Bg G6 10 L9 GR (.nil _ _)
theorem H3:Bj F0 124 Ma:=Bg G6 2 Ma GS (.nil _ _)
theorem H4:Bj F0 125 Mb:=Bg G6 1 Mb GU (.nil _ _)
theorem Kk:Bj F0 59 Sg:=Bg G6 1 Sg LW (.nil _ _)
theorem H5:Bj F0 117 Mc:=Bg G6 14 Mc GV (.nil _ _)
theorem gP:Ot F0 t1:=⟨⟨⟨⟨⟨⟨⟨⟨⟨trivial,(n1 Hv),trivial⟩,n0,trivial⟩,n0,trivial⟩,n0,⟨⟨trivial,(n1 Hz),trivial⟩,n0,trivial⟩⟩,n0,trivial⟩,n0,trivial⟩,n0,⟨trivial,n0,⟨trivial,n0,⟨trivial,(n1 Kk),trivial⟩⟩⟩⟩,n0,⟨⟨⟨trivial,n0,⟨⟨⟨⟨trivial,(n1 Hs),trivial⟩,n0,trivial⟩,n0,trivial⟩,n0,trivial⟩⟩,n0,trivial⟩,n0,⟨⟨⟨⟨⟨⟨trivial,(n1 Hy),trivial⟩,n0,trivial⟩,n0,trivial⟩,n0,trivial⟩,n0,⟨trivial,n0,⟨trivial,(n1 H5),trivial⟩⟩⟩,n0,⟨trivial,n0,⟨trivial,n0,⟨trivial,(n1 H4),⟨trivial,(n1 Hu),trivial⟩⟩⟩⟩⟩⟩⟩,n0,⟨⟨⟨⟨⟨⟨⟨⟨trivial,(n1 Ri),trivial⟩,n0,trivial⟩,n0,trivial⟩,n0,trivial⟩,n0,⟨trivial,(n1 Ki),trivial⟩⟩,n0,⟨⟨⟨⟨⟨trivial,(n1 Hq),trivial⟩,n0,trivial⟩,n0,trivial⟩,n0,⟨trivial,(n1 Hx),trivial⟩⟩,n0,trivial⟩⟩,n0,⟨trivial,n0,⟨trivial,n0,⟨⟨⟨trivial,(n1 H2),trivial⟩,n0,trivial⟩,n0,⟨trivial,(n1 H3),⟨trivial,(n1 Ht),trivial⟩⟩⟩⟩⟩⟩,n0,⟨⟨⟨⟨⟨⟨⟨trivial,(n1 Hw),trivial⟩,n0,trivial⟩,n0,trivial⟩,n0,trivial⟩,n0,⟨trivial,n0,⟨⟨trivial,(n1 Hr),trivial⟩,n0,trivial⟩⟩⟩,n0,trivial⟩,n0,⟨⟨⟨⟨⟨⟨trivial,(n1 H0),trivial⟩,n0,trivial⟩,n0,trivial⟩,n0,trivial⟩,n0,⟨trivial,(n1 Kj),trivial⟩⟩,n0,trivial⟩⟩⟩⟩
theorem Jg:Bj F0 107 Od:=Bg gP 1 Od GW (.nil _ _)
theorem Jh:Bj F0 250 Oe:=Bg gP 1 Oe GX (.nil _ _)
theorem Ji:Bj F0 176 Og:=Bg gP 17 Og GY (.nil _ _)
theorem Jj:Bj F0 239 Oh:=Bg gP 8 Oh GZ (.nil _ _)
theorem M8:Bj F0 70 Ve:=Bg gP 1 Ve LX (.nil _ _)
theorem pS:Bj F0 91 pP:=Bg gP 1 pP LY (.nil _ _)
theorem gQ:Ot F0 t2:=⟨⟨⟨⟨⟨⟨⟨⟨⟨trivial,(n1 Hv),trivial⟩,n0,trivial⟩,n0,trivial⟩,n0,⟨⟨trivial,(n1 Hz),trivial⟩,n0,trivial⟩⟩,n0,⟨trivial,n0,⟨trivial,n0,⟨trivial,(n1 Jj),trivial⟩⟩⟩⟩,n0,trivial⟩,n0,⟨trivial,n0,⟨⟨trivial,n0,⟨trivial,(n1 Jg),trivial⟩⟩,n0,⟨⟨trivial,(n1 pS),trivial⟩,(n1 Kk),trivial⟩⟩⟩⟩,n0,⟨⟨⟨trivial,n0,⟨⟨⟨⟨trivial,(n1 Hs),trivial⟩,n0,trivial⟩,n0,trivial⟩,n0,trivial⟩⟩,n0,trivial⟩,n0,⟨⟨⟨⟨⟨⟨trivial,(n1 Hy),trivial⟩,n0,trivial⟩,n0,trivial⟩,n0,trivial⟩,n0,⟨trivial,n0,⟨trivial,(n1 H5),trivial⟩⟩⟩,n0,⟨trivial,n0,⟨trivial,n0,⟨trivial,(n1 H4),⟨trivial,(n1 Hu),trivial⟩⟩⟩⟩⟩⟩⟩,n0,⟨⟨⟨⟨⟨⟨⟨⟨trivial,(n1 Ri),trivial⟩,n0,trivial⟩,n0,trivial⟩,n0,trivial⟩,n0,⟨trivial,(n1 Ki),⟨⟨trivial,(n1 Ji),trivial⟩,n0,trivial⟩⟩⟩,n0,⟨⟨⟨⟨⟨trivial,(n1 Hq),trivial⟩,n0,trivial⟩,n0,trivial⟩,n0,⟨trivial,(n1 Hx),trivial⟩⟩,n0,trivial⟩⟩,n0,⟨trivial,n0,⟨trivial,n0,⟨⟨⟨trivial,(n1 H2),trivial⟩,n0,trivial⟩,n0,⟨trivial,(n1 H3),⟨trivial,(n1 Ht),trivial⟩⟩⟩⟩⟩⟩,n0,⟨⟨⟨⟨⟨⟨⟨trivial,(n1 Hw),trivial⟩,n0,trivial⟩,n0,trivial⟩,n0,trivial⟩,n0,⟨trivial,n0,⟨⟨trivial,(n1 Hr),trivial⟩,n0,trivial⟩⟩⟩,n0,⟨trivial,n0,⟨trivial,n0,⟨trivial,n0,⟨trivial,(n1 Jh),trivial⟩⟩⟩⟩⟩,n0,⟨⟨⟨⟨⟨⟨trivial,(n1 H0),trivial⟩,n0,trivial⟩,(n1 M8),trivial⟩,n0,trivial⟩,n0,⟨trivial,(n1 Kj),trivial⟩⟩,n0,trivial⟩⟩⟩⟩
theorem Qm:Bj F0 43 Yh:=Bg gQ 1 Yh LZ (.nil _ _)
theorem M9:Bj F0 106 Qi:=Bg gQ 9 Qi HA (.nil _ _)
theorem Na:Bj F0 105 Qj:=Bg gQ 5 Qj HB (.nil _ _)
theorem Nb:Bj F0 109 Qk:=Bg gQ 3 Qk HC (.nil _ _)
theorem Qn:Bj F0 91 Yi:=Bg gQ 1 Yi MA (pS)
theorem wX:Bj F0 7 GD:=Bg gQ 1 GD RS (.nil _ _)
theorem Sh:Ot F0 t3:=⟨⟨⟨⟨⟨⟨⟨⟨⟨trivial,(n1 Hv),trivial⟩,n0,trivial⟩,n0,trivial⟩,n0,⟨⟨trivial,(n1 Hz),trivial⟩,n0,trivial⟩⟩,n0,⟨trivial,n0,⟨trivial,n0,⟨trivial,(n1 Jj),trivial⟩⟩⟩⟩,(n1 wX),trivial⟩,n0,⟨trivial,n0,⟨⟨trivial,(n1 Qm),⟨trivial,(n1 Jg),trivial⟩⟩,n0,⟨⟨trivial,(n1 Qn),trivial⟩,(n1 Kk),trivial⟩⟩⟩⟩,n0,⟨⟨⟨trivial,n0,⟨⟨⟨⟨trivial,(n1 Hs),trivial⟩,n0,trivial⟩,n0,trivial⟩,n0,trivial⟩⟩,n0,⟨⟨trivial,n0,⟨trivial,(n1 Na),trivial⟩⟩,n0,trivial⟩⟩,n0,⟨⟨⟨⟨⟨⟨trivial,(n1 Hy),trivial⟩,n0,trivial⟩,n0,trivial⟩,n0,trivial⟩,n0,⟨trivial,n0,⟨trivial,(n1 H5),trivial⟩⟩⟩,n0,⟨⟨trivial,n0,⟨trivial,(n1 Nb),trivial⟩⟩,n0,⟨trivial,n0,⟨trivial,(n1 H4),⟨trivial,(n1 Hu),trivial⟩⟩⟩⟩⟩⟩⟩,n0,⟨⟨⟨⟨⟨⟨⟨⟨trivial,(n1 Ri),trivial⟩,n0,trivial⟩,n0,trivial⟩,n0,trivial⟩,n0,⟨trivial,(n1 Ki),⟨⟨trivial,(n1 Ji),trivial⟩,n0,trivial⟩⟩⟩,n0,⟨⟨⟨⟨⟨trivial,(n1 Hq),trivial⟩,n0,trivial⟩,n0,trivial⟩,n0,⟨trivial,(n1 Hx),trivial⟩⟩,n0,trivial⟩⟩,n0,⟨trivial,n0,⟨trivial,n0,⟨⟨⟨trivial,(n1 H2),trivial⟩,n0,trivial⟩,n0,⟨trivial,(n1 H3),⟨trivial,(n1 Ht),trivial⟩⟩⟩⟩⟩⟩,n0,⟨⟨⟨⟨⟨⟨⟨trivial,(n1 Hw),trivial⟩,n0,trivial⟩,n0,trivial⟩,n0,trivial⟩,n0,⟨trivial,n0,⟨⟨trivial,(n1 Hr),trivial⟩,n0,trivial⟩⟩⟩,n0,⟨⟨trivial,n0,⟨trivial,(n1 M9),trivial⟩⟩,n0,⟨trivial,n0,⟨trivial,n0,⟨trivial,(n1 Jh),trivial⟩⟩⟩⟩⟩,n0,⟨⟨⟨⟨⟨⟨trivial,(n1 H0),trivial⟩,n0,trivial⟩,(n1 M8),trivial⟩,n0,trivial⟩,n0,⟨trivial,(n1 Kj),trivial⟩⟩,n0,trivial⟩⟩⟩⟩
theorem Rj:Bj F0 251 Te:=Bg Sh 1 Te HD (.nil _ _)
theorem Rk:Bj F0 257 Tf:=Bg Sh 2 Tf HE (.nil _ _)
theorem Rn:Bj F0 256 Tg:=Bg Sh 3 Tg HF (Ri)
theorem Vf:Bj F0 46 dQ:=Bg Sh 1 dQ MB (.nil _ _)
theorem Zg:Bj F0 7 tN:=Bg Sh 1 tN RT (wX)
theorem HI:Bj F0 14 wV:=Bg Sh 3 wV MD (.nil _ _)
theorem Ro:Bj F0 14 Th:=Bg Sh 1 Th HG (HI)
theorem Vg:Bj F0 18 dS:=Bg Sh 1 dS ME (.nil _ _)
theorem Vh:Bj F0 24 dU:=Bg Sh 2 dU MF (.nil _ _)
theorem Zh:Bj F0 9 tO:=Bg Sh 1 tO RU (.nil _ _)
theorem VH:Ot F0 t4:=⟨⟨⟨⟨⟨⟨⟨⟨⟨trivial,(n1 Hv),trivial⟩,n0,trivial⟩,n0,trivial⟩,n0,⟨⟨trivial,(n1 Hz),trivial⟩,n0,trivial⟩⟩,n0,⟨trivial,n0,⟨trivial,n0,⟨trivial,(n1 Jj),trivial⟩⟩⟩⟩,(n1 Zg),trivial⟩,n0,⟨trivial,n0,⟨⟨trivial,(n1 Qm),⟨trivial,(n1 Jg),trivial⟩⟩,n0,⟨⟨trivial,(n1 Qn),trivial⟩,(n1 Kk),⟨trivial,n0,⟨trivial,(n1 Rj),trivial⟩⟩⟩⟩⟩⟩,n0,⟨⟨⟨⟨⟨⟨⟨trivial,(n1 Rk),trivial⟩,n0,trivial⟩,n0,trivial⟩,n0,trivial⟩,n0,⟨⟨⟨⟨trivial,(n1 Hs),trivial⟩,n0,trivial⟩,n0,trivial⟩,n0,trivial⟩⟩,(n1 Zh),⟨⟨trivial,n0,⟨trivial,(n1 Na),trivial⟩⟩,n0,trivial⟩⟩,n0,⟨⟨⟨⟨⟨⟨trivial,(n1 Hy),trivial⟩,n0,trivial⟩,n0,trivial⟩,n0,trivial⟩,n0,⟨trivial,n0,⟨trivial,(n1 H5),trivial⟩⟩⟩,n0,⟨⟨trivial,n0,⟨trivial,(n1 Nb),trivial⟩⟩,n0,⟨trivial,n0,⟨trivial,(n1 H4),⟨trivial,(n1 Hu),trivial⟩⟩⟩⟩⟩⟩⟩,n0,⟨⟨⟨⟨⟨⟨⟨⟨trivial,(n1 Rn),trivial⟩,n0,trivial⟩,n0,trivial⟩,n0,trivial⟩,n0,⟨trivial,(n1 Ki),⟨⟨trivial,(n1 Ji),trivial⟩,n0,trivial⟩⟩⟩,n0,⟨⟨⟨⟨⟨trivial,(n1 Hq),trivial⟩,n0,trivial⟩,n0,trivial⟩,n0,⟨trivial,(n1 Hx),trivial⟩⟩,(n1 Vh),trivial⟩⟩,n0,⟨trivial,n0,⟨trivial,n0,⟨⟨⟨trivial,(n1 H2),trivial⟩,n0,trivial⟩,n0,⟨trivial,(n1 H3),⟨trivial,(n1 Ht),trivial⟩⟩⟩⟩⟩⟩,n0,⟨⟨⟨⟨⟨⟨⟨trivial,(n1 Hw),trivial⟩,n0,trivial⟩,n0,trivial⟩,n0,trivial⟩,(n1 Vg),⟨trivial,n0,⟨⟨trivial,(n1 Hr),trivial⟩,n0,trivial⟩⟩⟩,n0,⟨⟨trivial,n0,⟨trivial,(n1 M9),trivial⟩⟩,n0,⟨trivial,n0,⟨trivial,n0,⟨trivial,(n1 Jh),trivial⟩⟩⟩⟩⟩,n0,⟨⟨⟨⟨⟨⟨trivial,(n1 H0),trivial⟩,n0,trivial⟩,(n1 M8),trivial⟩,n0,trivial⟩,n0,⟨trivial,(n1 Kj),trivial⟩⟩,(n1 Ro),⟨⟨trivial,(n1 Vf),trivial⟩,n0,trivial⟩⟩⟩⟩⟩
theorem Wy:Bj F0 254 Wx:=Bg VH 1 Wx HH (.nil _ _)
theorem NS:Ot F0 t5:=⟨⟨⟨⟨⟨⟨⟨⟨⟨trivial,(n1 Hv),trivial⟩,n0,trivial⟩,n0,trivial⟩,n0,⟨⟨trivial,(n1 Hz),trivial⟩,n0,trivial⟩⟩,n0,⟨trivial,n0,⟨trivial,n0,⟨trivial,(n1 Jj),trivial⟩⟩⟩⟩,(n1 Zg),trivial⟩,n0,⟨trivial,n0,⟨⟨trivial,(n1 Qm),⟨trivial,(n1 Jg),trivial⟩⟩,n0,⟨⟨trivial,(n1 Qn),trivial⟩,(n1 Kk),⟨trivial,n0,⟨trivial,(n1 Rj),trivial⟩⟩⟩⟩⟩⟩,n0,⟨⟨⟨⟨⟨⟨⟨trivial,(n1 Rk),trivial⟩,n0,trivial⟩,n0,trivial⟩,n0,trivial⟩,n0,⟨⟨⟨⟨trivial,(n1 Hs),trivial⟩,n0,trivial⟩,n0,trivial⟩,n0,trivial⟩⟩,(n1 Zh),⟨⟨trivial,n0,⟨trivial,(n1 Na),trivial⟩⟩,n0,trivial⟩⟩,n0,⟨⟨⟨⟨⟨⟨trivial,(n1 Hy),trivial⟩,n0,trivial⟩,n0,trivial⟩,n0,trivial⟩,n0,⟨trivial,n0,⟨trivial,(n1 H5),trivial⟩⟩⟩,n0,⟨⟨trivial,n0,⟨trivial,(n1 Nb),trivial⟩⟩,n0,⟨trivial,n0,⟨trivial,(n1 H4),⟨trivial,(n1 Hu),trivial⟩⟩⟩⟩⟩⟩⟩,n0,⟨⟨⟨⟨⟨⟨⟨⟨trivial,(n1 Rn),trivial⟩,n0,trivial⟩,n0,trivial⟩,n0,trivial⟩,n0,⟨trivial,(n1 Ki),⟨⟨trivial,(n1 Ji),trivial⟩,n0,trivial⟩⟩⟩,n0,⟨⟨⟨⟨⟨trivial,(n1 Hq),trivial⟩,n0,trivial⟩,n0,trivial⟩,n0,⟨trivial,(n1 Hx),trivial⟩⟩,(n1 Vh),trivial⟩⟩,n0,⟨trivial,n0,⟨trivial,n0,⟨⟨⟨trivial,(n1 H2),trivial⟩,n0,trivial⟩,n0,⟨trivial,(n1 H3),⟨trivial,(n1 Ht),trivial⟩⟩⟩⟩⟩⟩,n0,⟨⟨⟨⟨⟨⟨⟨trivial,(n1 Hw),trivial⟩,n0,trivial⟩,n0,trivial⟩,n0,trivial⟩,(n1 Vg),⟨trivial,n0,⟨⟨trivial,(n1 Hr),trivial⟩,n0,trivial⟩⟩⟩,n0,⟨⟨trivial,n0,⟨trivial,(n1 M9),trivial⟩⟩,n0,⟨trivial,n0,⟨trivial,n0,⟨trivial,(n1 Jh),trivial⟩⟩⟩⟩⟩,n0,⟨⟨⟨⟨⟨⟨trivial,(n1 H0),trivial⟩,n0,trivial⟩,(n1 M8),trivial⟩,n0,trivial⟩,n0,⟨trivial,(n1 Kj),trivial⟩⟩,(n1 Ro),⟨⟨trivial,(n1 Vf),trivial⟩,n0,⟨trivial,n0,⟨trivial,n0,⟨trivial,(n1 Wy),trivial⟩⟩⟩⟩⟩⟩⟩⟩
theorem pT:Bj F0 80 pQ:=Bg NS 1 pQ MG (.nil _ _)
theorem pU:Bj F0 82 pR:=Bg NS 1 pR MH (.nil _ _)
theorem VI:Ot F0 t6:=⟨⟨⟨⟨⟨⟨⟨⟨⟨trivial,(n1 Hv),trivial⟩,n0,trivial⟩,n0,trivial⟩,n0,⟨⟨trivial,(n1 Hz),trivial⟩,n0,trivial⟩⟩,n0,⟨trivial,n0,⟨trivial,n0,⟨trivial,(n1 Jj),trivial⟩⟩⟩⟩,(n1 Zg),trivial⟩,n0,⟨trivial,n0,⟨⟨trivial,(n1 Qm),⟨trivial,(n1 Jg),trivial⟩⟩,n0,⟨⟨trivial,(n1 Qn),trivial⟩,(n1 Kk),⟨trivial,n0,⟨trivial,(n1 Rj),trivial⟩⟩⟩⟩⟩⟩,n0,⟨⟨⟨⟨⟨⟨⟨trivial,(n1 Rk),trivial⟩,n0,trivial⟩,n0,trivial⟩,n0,trivial⟩,n0,⟨⟨⟨⟨trivial,(n1 Hs),trivial⟩,n0,trivial⟩,n0,trivial⟩,n0,trivial⟩⟩,(n1 Zh),⟨⟨trivial,n0,⟨trivial,(n1 Na),trivial⟩⟩,n0,trivial⟩⟩,n0,⟨⟨⟨⟨⟨⟨trivial,(n1 Hy),trivial⟩,n0,trivial⟩,n0,trivial⟩,n0,trivial⟩,n0,⟨trivial,n0,⟨trivial,(n1 H5),trivial⟩⟩⟩,n0,⟨⟨trivial,n0,⟨trivial,(n1 Nb),trivial⟩⟩,n0,⟨trivial,n0,⟨trivial,(n1 H4),⟨trivial,(n1 Hu),trivial⟩⟩⟩⟩⟩⟩⟩,n0,⟨⟨⟨⟨⟨⟨⟨⟨trivial,(n1 Rn),trivial⟩,n0,trivial⟩,n0,trivial⟩,n0,trivial⟩,n0,⟨⟨trivial,(n1 pT),trivial⟩,(n1 Ki),⟨⟨trivial,(n1 Ji),trivial⟩,n0,trivial⟩⟩⟩,n0,⟨⟨⟨⟨⟨trivial,(n1 Hq),trivial⟩,n0,trivial⟩,n0,trivial⟩,n0,⟨trivial,(n1 Hx),trivial⟩⟩,(n1 Vh),trivial⟩⟩,n0,⟨trivial,n0,⟨trivial,n0,⟨⟨⟨trivial,(n1 H2),trivial⟩,n0,trivial⟩,n0,⟨trivial,(n1 H3),⟨trivial,(n1 Ht),trivial⟩⟩⟩⟩⟩⟩,n0,⟨⟨⟨⟨⟨⟨⟨trivial,(n1 Hw),trivial⟩,n0,trivial⟩,n0,trivial⟩,n0,trivial⟩,(n1 Vg),⟨⟨trivial,(n1 pU),trivial⟩,n0,⟨⟨trivial,(n1 Hr),trivial⟩,n0,trivial⟩⟩⟩,n0,⟨⟨trivial,n0,⟨trivial,(n1 M9),trivial⟩⟩,n0,⟨trivial,n0,⟨trivial,n0,⟨trivial,(n1 Jh),trivial⟩⟩⟩⟩⟩,n0,⟨⟨⟨⟨⟨⟨trivial,(n1 H0),trivial⟩,n0,trivial⟩,(n1 M8),trivial⟩,n0,trivial⟩,n0,⟨trivial,(n1 Kj),trivial⟩⟩,(n1 Ro),⟨⟨trivial,(n1 Vf),trivial⟩,n0,⟨trivial,n0,⟨trivial,n0,⟨trivial,(n1 Wy),trivial⟩⟩⟩⟩⟩⟩⟩⟩
theorem HJ:Bj F0 23 wW:=Bg VI 1 wW MI (.nil _ _)
theorem VJ:Ot F0 t7:=⟨⟨⟨⟨⟨⟨⟨⟨⟨trivial,(n1 Hv),trivial⟩,n0,trivial⟩,n0,trivial⟩,n0,⟨⟨trivial,(n1 Hz),trivial⟩,n0,trivial⟩⟩,n0,⟨trivial,n0,⟨trivial,n0,⟨trivial,(n1 Jj),trivial⟩⟩⟩⟩,(n1 Zg),⟨trivial,(n1 HJ),trivial⟩⟩,n0,⟨trivial,n0,⟨⟨trivial,(n1 Qm),⟨trivial,(n1 Jg),trivial⟩⟩,n0,⟨⟨trivial,(n1 Qn),trivial⟩,(n1 Kk),⟨trivial,n0,⟨trivial,(n1 Rj),trivial⟩⟩⟩⟩⟩⟩,n0,⟨⟨⟨⟨⟨⟨⟨trivial,(n1 Rk),trivial⟩,n0,trivial⟩,n0,trivial⟩,n0,trivial⟩,n0,⟨⟨⟨⟨trivial,(n1 Hs),trivial⟩,n0,trivial⟩,n0,trivial⟩,n0,trivial⟩⟩,(n1 Zh),⟨⟨trivial,n0,⟨trivial,(n1 Na),trivial⟩⟩,n0,trivial⟩⟩,n0,⟨⟨⟨⟨⟨⟨trivial,(n1 Hy),trivial⟩,n0,trivial⟩,n0,trivial⟩,n0,trivial⟩,n0,⟨trivial,n0,⟨trivial,(n1 H5),trivial⟩⟩⟩,n0,⟨⟨trivial,n0,⟨trivial,(n1 Nb),trivial⟩⟩,n0,⟨trivial,n0,⟨trivial,(n1 H4),⟨trivial,(n1 Hu),trivial⟩⟩⟩⟩⟩⟩⟩,n0,⟨⟨⟨⟨⟨⟨⟨⟨trivial,(n1 Rn),trivial⟩,n0,trivial⟩,n0,trivial⟩,n0,trivial⟩,n0,⟨⟨trivial,(n1 pT),trivial⟩,(n1 Ki),⟨⟨trivial,(n1 Ji),trivial⟩,n0,trivial⟩⟩⟩,n0,⟨⟨⟨⟨⟨trivial,(n1 Hq),trivial⟩,n0,trivial⟩,n0,trivial⟩,n0,⟨trivial,(n1 Hx),trivial⟩⟩,(n1 Vh),trivial⟩⟩,n0,⟨trivial,n0,⟨trivial,n0,⟨⟨⟨trivial,(n1 H2),trivial⟩,n0,trivial⟩,n0,⟨trivial,(n1 H3),⟨trivial,(n1 Ht),trivial⟩⟩⟩⟩⟩⟩,n0,⟨⟨⟨⟨⟨⟨⟨trivial,(n1 Hw),trivial⟩,n0,trivial⟩,n0,trivial⟩,n0,trivial⟩,(n1 Vg),⟨⟨trivial,(n1 pU),trivial⟩,n0,⟨⟨trivial,(n1 Hr),trivial⟩,n0,trivial⟩⟩⟩,n0,⟨⟨trivial,n0,⟨trivial,(n1 M9),trivial⟩⟩,n0,⟨trivial,n0,⟨trivial,n0,⟨trivial,(n1 Jh),trivial⟩⟩⟩⟩⟩,n0,⟨⟨⟨⟨⟨⟨trivial,(n1 H0),trivial⟩,n0,trivial⟩,(n1 M8),trivial⟩,n0,trivial⟩,n0,⟨trivial,(n1 Kj),trivial⟩⟩,(n1 Ro),⟨⟨trivial,(n1 Vf),trivial⟩,n0,⟨trivial,n0,⟨trivial,n0,⟨trivial,(n1 Wy),trivial⟩⟩⟩⟩⟩⟩⟩⟩
theorem VK:Ot F0 tz:=VJ
theorem san:Ag F0 5 [] (B true):=entry VK MJ
end Go.Pv.E2
end

/- A part of the proof that the law CountTower answers true. No condition. -/
import Derived.Test.YtdhdjlocnjailaaGreatFast
import Derived.Test.YtdhdjlocnjailaaGreatMul
import Derived.Test.YtdhdjlocnjailaaGreatRuna
import Derived.Test.YtdhdjlocnjailaaGreatRunb
import Derived.Test.YtdhdjlocnjailaaGreatRunc
import Derived.Test.YtdhdjlocnjailaaGreatRund
import Derived.Test.YtdhdjlocnjailaaGreatRune
import Derived.Test.YtdhdjlocnjailaaGreatRunf
import Derived.Test.YtdhdjlocnjailaaGreatRung
import Derived.Test.YtdhdjlocnjailaaGreatRunh
import Derived.Test.YtdhdjlocnjailaaGreatRuni
import Derived.Test.YtdhdjlocnjailaaGreatRunj
import Derived.Test.YtdhdjlocnjailaaGreatRunk
import Derived.Test.YtdhdjlocnjailaaGreatRunl
import Derived.Test.YtdhdjlocnjailaaGreatRunz
set_option linter.unusedVariables false
set_option linter.unusedSimpArgs false
set_option linter.unusedSectionVars false
section
set_option maxRecDepth 100000
namespace Go.Pv.E
open Go.Vm Go.Pv.K
theorem chk_ok {t : Tr Ent} {f : Nat} (ht : TabOk F0 t) : ∀ (n : Nat) (e : Ent), chk t f n e = true → EntOk F0 f (e.drop n) → EntOk F0 f e
  | 0, _, _, h => h
  | _ + 1, [], _, h => h
  | n + 1, (xs, r) :: l, h, ho => by
    obtain ⟨h1, h2⟩ := ite_f (c := runK F0 (known pureT t) 1000000 f xs (fun v => eqA v r)) (a := chk t f n l) h
    exact .cons (entry ht h1) (chk_ok ht n l h2 ho)
theorem t0_ok : TabOk F0 t0 := trivial
theorem n0 {P : Ent → Prop} : ∀ x, (none : Option Ent) = some x → P x := fun _ e => by cases e
theorem n1 {P : Ent → Prop} {l : Ent} (h : P l) : ∀ x, some l = some x → P x := fun _ e => by cases e; exact h
theorem e9_1_ok : EntOk F0 9 e9_1 := chk_ok t0_ok 2 e9_1 e9_1_c (.nil _ _)
theorem e206_1_ok : EntOk F0 206 e206_1 := chk_ok t0_ok 10 e206_1 e206_1_c (.nil _ _)
theorem e230_1_ok : EntOk F0 230 e230_1 := chk_ok t0_ok 3 e230_1 e230_1_c (.nil _ _)
theorem e179_1_ok : EntOk F0 179 e179_1 := chk_ok t0_ok 8 e179_1 e179_1_c (.nil _ _)
theorem e210_1_ok : EntOk F0 210 e210_1 := chk_ok t0_ok 10 e210_1 e210_1_c (.nil _ _)
theorem e182_1_ok : EntOk F0 182 e182_1 := chk_ok t0_ok 124 e182_1 e182_1_c (.nil _ _)
theorem e93_1_ok : EntOk F0 93 e93_1 := chk_ok t0_ok 1 e93_1 e93_1_c (.nil _ _)
theorem e26_1_ok : EntOk F0 26 e26_1 := chk_ok t0_ok 2 e26_1 e26_1_c (.nil _ _)
theorem e39_1_ok : EntOk F0 39 e39_1 := chk_ok t0_ok 30 e39_1 e39_1_c (.nil _ _)
theorem e59_1_ok : EntOk F0 59 e59_1 := chk_ok t0_ok 38 e59_1 e59_1_c (.nil _ _)
theorem e10_1_ok : EntOk F0 10 e10_1 := chk_ok t0_ok 5 e10_1 e10_1_c (.nil _ _)
theorem e22_1_ok : EntOk F0 22 e22_1 := chk_ok t0_ok 1 e22_1 e22_1_c (.nil _ _)
theorem e141_1_ok : EntOk F0 141 e141_1 := chk_ok t0_ok 1 e141_1 e141_1_c (.nil _ _)
theorem e12_1_ok : EntOk F0 12 e12_1 := chk_ok t0_ok 22 e12_1 e12_1_c (.nil _ _)
theorem e35_1_ok : EntOk F0 35 e35_1 := chk_ok t0_ok 15 e35_1 e35_1_c (.nil _ _)
theorem e37_1_ok : EntOk F0 37 e37_1 := chk_ok t0_ok 20 e37_1 e37_1_c (.nil _ _)
theorem t1_ok : TabOk F0 t1 := ⟨⟨⟨⟨trivial, n0, ⟨⟨trivial, (n1 e39_1_ok), trivial⟩, n0, trivial⟩⟩, n0, ⟨⟨⟨trivial, (n1 e35_1_ok), trivial⟩, n0, ⟨trivial, n0, ⟨⟨trivial, (n1 e179_1_ok), trivial⟩, n0, trivial⟩⟩⟩, n0, ⟨trivial, n0, ⟨trivial, (n1 e59_1_ok), trivial⟩⟩⟩⟩, n0, ⟨⟨trivial, (n1 e9_1_ok), trivial⟩, n0, ⟨⟨⟨trivial, (n1 e37_1_ok), trivial⟩, n0, trivial⟩, n0, ⟨⟨⟨⟨trivial, (n1 e141_1_ok), trivial⟩, n0, trivial⟩, n0, trivial⟩, n0, ⟨⟨trivial, (n1 e93_1_ok), trivial⟩, n0, trivial⟩⟩⟩⟩⟩, n0, ⟨⟨trivial, n0, ⟨trivial, (n1 e12_1_ok), trivial⟩⟩, n0, ⟨⟨⟨trivial, n0, ⟨⟨trivial, n0, ⟨trivial, (n1 e210_1_ok), trivial⟩⟩, n0, trivial⟩⟩, (n1 e10_1_ok), ⟨trivial, (n1 e26_1_ok), trivial⟩⟩, n0, ⟨⟨⟨trivial, n0, ⟨trivial, n0, ⟨trivial, (n1 e230_1_ok), trivial⟩⟩⟩, (n1 e22_1_ok), ⟨trivial, n0, ⟨⟨trivial, (n1 e182_1_ok), trivial⟩, n0, trivial⟩⟩⟩, n0, ⟨⟨⟨trivial, n0, ⟨trivial, (n1 e206_1_ok), trivial⟩⟩, n0, trivial⟩, n0, trivial⟩⟩⟩⟩⟩
theorem e121_2_ok : EntOk F0 121 e121_2 := chk_ok t1_ok 1 e121_2 e121_2_c (.nil _ _)
theorem e173_2_ok : EntOk F0 173 e173_2 := chk_ok t1_ok 17 e173_2 e173_2_c (.nil _ _)
theorem e224_2_ok : EntOk F0 224 e224_2 := chk_ok t1_ok 42 e224_2 e224_2_c (.nil _ _)
theorem e141_2_ok : EntOk F0 141 e141_2 := chk_ok t1_ok 16 e141_2 e141_2_c (e141_1_ok)
theorem e141_2a_ok : EntOk F0 141 e141_2a := chk_ok t1_ok 5 e141_2a e141_2a_c (e141_2_ok)
theorem e41_2_ok : EntOk F0 41 e41_2 := chk_ok t1_ok 1 e41_2 e41_2_c (.nil _ _)
theorem e73_2_ok : EntOk F0 73 e73_2 := chk_ok t1_ok 39 e73_2 e73_2_c (.nil _ _)
theorem e73_2a_ok : EntOk F0 73 e73_2a := chk_ok t1_ok 2 e73_2a e73_2a_c (e73_2_ok)
theorem e73_2b_ok : EntOk F0 73 e73_2b := .cons (M.sq73 (pure := pureT) t1_ok rfl 64 (by decide) (by decide +kernel) (by decide +kernel) (by decide +kernel) (fun _ => rfl)) (e73_2a_ok)
theorem e73_2c_ok : EntOk F0 73 e73_2c := chk_ok t1_ok 1 e73_2c e73_2c_c (e73_2b_ok)
theorem e73_2d_ok : EntOk F0 73 e73_2d := .cons (M.sq73 (pure := pureT) t1_ok rfl 128 (by decide) (by decide +kernel) (by decide +kernel) (by decide +kernel) (fun _ => rfl)) (e73_2c_ok)
theorem e73_2e_ok : EntOk F0 73 e73_2e := chk_ok t1_ok 1 e73_2e e73_2e_c (e73_2d_ok)
theorem e73_2f_ok : EntOk F0 73 e73_2f := .cons (M.sq73 (pure := pureT) t1_ok rfl 256 (by decide) (by decide +kernel) (by decide +kernel) (by decide +kernel) (fun _ => rfl)) (e73_2e_ok)
theorem e73_2g_ok : EntOk F0 73 e73_2g := chk_ok t1_ok 1 e73_2g e73_2g_c (e73_2f_ok)
theorem e73_2h_ok : EntOk F0 73 e73_2h := .cons (M.sq73 (pure := pureT) t1_ok rfl 512 (by decide) (by decide +kernel) (by decide +kernel) (by decide +kernel) (fun _ => rfl)) (e73_2g_ok)
theorem e72_2_ok : EntOk F0 72 e72_2 := chk_ok t1_ok 41 e72_2 e72_2_c (.nil _ _)
theorem e107_2_ok : EntOk F0 107 e107_2 := chk_ok t1_ok 22 e107_2 e107_2_c (.nil _ _)
theorem e96_2_ok : EntOk F0 96 e96_2 := chk_ok t1_ok 1 e96_2 e96_2_c (.nil _ _)
theorem e5_2_ok : EntOk F0 5 e5_2 := chk_ok t1_ok 20 e5_2 e5_2_c (.nil _ _)
theorem e13_2_ok : EntOk F0 13 e13_2 := chk_ok t1_ok 6 e13_2 e13_2_c (.nil _ _)
theorem e11_2_ok : EntOk F0 11 e11_2 := chk_ok t1_ok 10 e11_2 e11_2_c (.nil _ _)
theorem e11_2a_ok : EntOk F0 11 e11_2a := chk_ok t1_ok 1 e11_2a e11_2a_c (e11_2_ok)
theorem e11_2b_ok : EntOk F0 11 e11_2b := .cons (M.sq11 (pure := pureT) t1_ok rfl rfl (by decide +kernel) 64 (by decide) (by decide +kernel) (by decide +kernel) (by decide +kernel) (fun _ => rfl)) (e11_2a_ok)
theorem e11_2c_ok : EntOk F0 11 e11_2c := .cons (M.sq11 (pure := pureT) t1_ok rfl rfl (by decide +kernel) 128 (by decide) (by decide +kernel) (by decide +kernel) (by decide +kernel) (fun _ => rfl)) (e11_2b_ok)
theorem e11_2d_ok : EntOk F0 11 e11_2d := .cons (M.sq11 (pure := pureT) t1_ok rfl rfl (by decide +kernel) 256 (by decide) (by decide +kernel) (by decide +kernel) (by decide +kernel) (fun _ => rfl)) (e11_2c_ok)
theorem t2_ok : TabOk F0 t2 := ⟨⟨⟨⟨trivial, n0, ⟨⟨trivial, (n1 e39_1_ok), trivial⟩, n0, trivial⟩⟩, n0, ⟨⟨⟨trivial, (n1 e35_1_ok), trivial⟩, n0, ⟨trivial, n0, ⟨⟨trivial, (n1 e179_1_ok), trivial⟩, n0, trivial⟩⟩⟩, (n1 e11_2d_ok), ⟨⟨trivial, n0, ⟨trivial, (n1 e107_2_ok), trivial⟩⟩, n0, ⟨trivial, (n1 e59_1_ok), trivial⟩⟩⟩⟩, n0, ⟨⟨trivial, (n1 e9_1_ok), ⟨⟨⟨trivial, (n1 e73_2h_ok), trivial⟩, (n1 e41_2_ok), trivial⟩, n0, ⟨trivial, n0, ⟨trivial, (n1 e121_2_ok), trivial⟩⟩⟩⟩, (n1 e5_2_ok), ⟨⟨⟨trivial, (n1 e37_1_ok), trivial⟩, n0, trivial⟩, (n1 e13_2_ok), ⟨⟨⟨⟨trivial, (n1 e141_2a_ok), trivial⟩, n0, trivial⟩, n0, ⟨⟨trivial, (n1 e173_2_ok), trivial⟩, n0, trivial⟩⟩, n0, ⟨⟨trivial, (n1 e93_1_ok), trivial⟩, n0, trivial⟩⟩⟩⟩⟩, n0, ⟨⟨⟨⟨⟨trivial, n0, ⟨trivial, (n1 e96_2_ok), ⟨trivial, (n1 e224_2_ok), trivial⟩⟩⟩, n0, trivial⟩, n0, ⟨⟨⟨trivial, (n1 e72_2_ok), trivial⟩, n0, trivial⟩, n0, trivial⟩⟩, n0, ⟨trivial, (n1 e12_1_ok), trivial⟩⟩, n0, ⟨⟨⟨trivial, n0, ⟨⟨trivial, n0, ⟨trivial, (n1 e210_1_ok), trivial⟩⟩, n0, trivial⟩⟩, (n1 e10_1_ok), ⟨trivial, (n1 e26_1_ok), trivial⟩⟩, n0, ⟨⟨⟨trivial, n0, ⟨trivial, n0, ⟨trivial, (n1 e230_1_ok), trivial⟩⟩⟩, (n1 e22_1_ok), ⟨trivial, n0, ⟨⟨trivial, (n1 e182_1_ok), trivial⟩, n0, trivial⟩⟩⟩, n0, ⟨⟨⟨trivial, n0, ⟨trivial, (n1 e206_1_ok), trivial⟩⟩, n0, trivial⟩, n0, trivial⟩⟩⟩⟩⟩
theorem e216_3_ok : EntOk F0 216 e216_3 := chk_ok t2_ok 6 e216_3 e216_3_c (.nil _ _)
theorem e130_3_ok : EntOk F0 130 e130_3 := chk_ok t2_ok 9 e130_3 e130_3_c (.nil _ _)
theorem e129_3_ok : EntOk F0 129 e129_3 := chk_ok t2_ok 5 e129_3 e129_3_c (.nil _ _)
theorem e78_3_ok : EntOk F0 78 e78_3 := chk_ok t2_ok 1 e78_3 e78_3_c (.nil _ _)
theorem e169_3_ok : EntOk F0 169 e169_3 := chk_ok t2_ok 56 e169_3 e169_3_c (.nil _ _)
theorem e96_3_ok : EntOk F0 96 e96_3 := chk_ok t2_ok 21 e96_3 e96_3_c (e96_2_ok)
theorem e55_3_ok : EntOk F0 55 e55_3 := chk_ok t2_ok 1 e55_3 e55_3_c (.nil _ _)
theorem e56_3_ok : EntOk F0 56 e56_3 := chk_ok t2_ok 1 e56_3 e56_3_c (.nil _ _)
theorem t3_ok : TabOk F0 t3 := ⟨⟨⟨⟨trivial, n0, ⟨⟨trivial, (n1 e39_1_ok), trivial⟩, n0, ⟨trivial, (n1 e55_3_ok), trivial⟩⟩⟩, n0, ⟨⟨⟨trivial, (n1 e35_1_ok), trivial⟩, n0, ⟨trivial, n0, ⟨⟨trivial, (n1 e179_1_ok), trivial⟩, n0, trivial⟩⟩⟩, (n1 e11_2d_ok), ⟨⟨trivial, n0, ⟨trivial, (n1 e107_2_ok), trivial⟩⟩, n0, ⟨trivial, (n1 e59_1_ok), trivial⟩⟩⟩⟩, n0, ⟨⟨⟨⟨⟨⟨trivial, (n1 e129_3_ok), trivial⟩, n0, trivial⟩, n0, trivial⟩, n0, trivial⟩, (n1 e9_1_ok), ⟨⟨⟨trivial, (n1 e73_2h_ok), trivial⟩, (n1 e41_2_ok), ⟨⟨trivial, (n1 e169_3_ok), trivial⟩, n0, trivial⟩⟩, n0, ⟨trivial, n0, ⟨trivial, (n1 e121_2_ok), trivial⟩⟩⟩⟩, (n1 e5_2_ok), ⟨⟨⟨trivial, (n1 e37_1_ok), trivial⟩, n0, trivial⟩, (n1 e13_2_ok), ⟨⟨⟨⟨trivial, (n1 e141_2a_ok), trivial⟩, n0, trivial⟩, n0, ⟨⟨trivial, (n1 e173_2_ok), trivial⟩, n0, trivial⟩⟩, n0, ⟨⟨trivial, (n1 e93_1_ok), trivial⟩, n0, trivial⟩⟩⟩⟩⟩, n0, ⟨⟨⟨⟨⟨trivial, n0, ⟨trivial, (n1 e96_3_ok), ⟨trivial, (n1 e224_2_ok), trivial⟩⟩⟩, n0, trivial⟩, n0, ⟨⟨⟨trivial, (n1 e72_2_ok), trivial⟩, n0, trivial⟩, n0, ⟨⟨trivial, n0, ⟨trivial, (n1 e216_3_ok), trivial⟩⟩, (n1 e56_3_ok), trivial⟩⟩⟩, n0, ⟨trivial, (n1 e12_1_ok), trivial⟩⟩, n0, ⟨⟨⟨⟨⟨⟨trivial, (n1 e130_3_ok), trivial⟩, n0, trivial⟩, n0, trivial⟩, n0, ⟨⟨trivial, n0, ⟨trivial, (n1 e210_1_ok), trivial⟩⟩, n0, trivial⟩⟩, (n1 e10_1_ok), ⟨trivial, (n1 e26_1_ok), trivial⟩⟩, n0, ⟨⟨⟨trivial, n0, ⟨trivial, n0, ⟨trivial, (n1 e230_1_ok), trivial⟩⟩⟩, (n1 e22_1_ok), ⟨trivial, n0, ⟨⟨trivial, (n1 e182_1_ok), trivial⟩, n0, trivial⟩⟩⟩, n0, ⟨⟨⟨trivial, (n1 e78_3_ok), ⟨trivial, (n1 e206_1_ok), trivial⟩⟩, n0, trivial⟩, n0, trivial⟩⟩⟩⟩⟩
theorem e164_4_ok : EntOk F0 164 e164_4 := chk_ok t3_ok 1 e164_4 e164_4_c (.nil _ _)
theorem e81_4_ok : EntOk F0 81 e81_4 := chk_ok t3_ok 4 e81_4 e81_4_c (.nil _ _)
theorem e125_4_ok : EntOk F0 125 e125_4 := chk_ok t3_ok 4 e125_4 e125_4_c (.nil _ _)
theorem e85_4_ok : EntOk F0 85 e85_4 := chk_ok t3_ok 28 e85_4 e85_4_c (.nil _ _)
theorem e55_4_ok : EntOk F0 55 e55_4 := chk_ok t3_ok 21 e55_4 e55_4_c (e55_3_ok)
theorem e56_4_ok : EntOk F0 56 e56_4 := chk_ok t3_ok 15 e56_4 e56_4_c (e56_3_ok)
theorem e56_4a_ok : EntOk F0 56 e56_4a := chk_ok t3_ok 6 e56_4a e56_4a_c (e56_4_ok)
theorem e18_4_ok : EntOk F0 18 e18_4 := chk_ok t3_ok 1 e18_4 e18_4_c (.nil _ _)
theorem t4_ok : TabOk F0 t4 := ⟨⟨⟨⟨trivial, n0, ⟨⟨trivial, (n1 e39_1_ok), trivial⟩, n0, ⟨trivial, (n1 e55_4_ok), trivial⟩⟩⟩, n0, ⟨⟨⟨trivial, (n1 e35_1_ok), trivial⟩, n0, ⟨trivial, n0, ⟨⟨trivial, (n1 e179_1_ok), trivial⟩, n0, trivial⟩⟩⟩, (n1 e11_2d_ok), ⟨⟨trivial, n0, ⟨trivial, (n1 e107_2_ok), trivial⟩⟩, n0, ⟨trivial, (n1 e59_1_ok), trivial⟩⟩⟩⟩, n0, ⟨⟨⟨⟨⟨⟨trivial, (n1 e129_3_ok), trivial⟩, n0, trivial⟩, n0, trivial⟩, n0, ⟨⟨trivial, (n1 e81_4_ok), trivial⟩, n0, trivial⟩⟩, (n1 e9_1_ok), ⟨⟨⟨trivial, (n1 e73_2h_ok), trivial⟩, (n1 e41_2_ok), ⟨⟨trivial, (n1 e169_3_ok), trivial⟩, n0, trivial⟩⟩, n0, ⟨trivial, n0, ⟨trivial, (n1 e121_2_ok), trivial⟩⟩⟩⟩, (n1 e5_2_ok), ⟨⟨⟨trivial, (n1 e37_1_ok), trivial⟩, n0, ⟨⟨trivial, (n1 e85_4_ok), trivial⟩, n0, trivial⟩⟩, (n1 e13_2_ok), ⟨⟨⟨⟨trivial, (n1 e141_2a_ok), trivial⟩, n0, trivial⟩, n0, ⟨⟨trivial, (n1 e173_2_ok), trivial⟩, n0, trivial⟩⟩, n0, ⟨⟨trivial, (n1 e93_1_ok), trivial⟩, n0, ⟨trivial, (n1 e125_4_ok), trivial⟩⟩⟩⟩⟩⟩, n0, ⟨⟨⟨⟨⟨trivial, n0, ⟨trivial, (n1 e96_3_ok), ⟨trivial, (n1 e224_2_ok), trivial⟩⟩⟩, n0, trivial⟩, n0, ⟨⟨⟨trivial, (n1 e72_2_ok), trivial⟩, n0, trivial⟩, n0, ⟨⟨trivial, n0, ⟨trivial, (n1 e216_3_ok), trivial⟩⟩, (n1 e56_4a_ok), trivial⟩⟩⟩, n0, ⟨⟨⟨trivial, n0, ⟨⟨trivial, (n1 e164_4_ok), trivial⟩, n0, trivial⟩⟩, n0, trivial⟩, (n1 e12_1_ok), trivial⟩⟩, n0, ⟨⟨⟨⟨⟨⟨trivial, (n1 e130_3_ok), trivial⟩, n0, trivial⟩, n0, trivial⟩, (n1 e18_4_ok), ⟨⟨trivial, n0, ⟨trivial, (n1 e210_1_ok), trivial⟩⟩, n0, trivial⟩⟩, (n1 e10_1_ok), ⟨trivial, (n1 e26_1_ok), trivial⟩⟩, n0, ⟨⟨⟨trivial, n0, ⟨trivial, n0, ⟨trivial, (n1 e230_1_ok), trivial⟩⟩⟩, (n1 e22_1_ok), ⟨trivial, n0, ⟨⟨trivial, (n1 e182_1_ok), trivial⟩, n0, trivial⟩⟩⟩, n0, ⟨⟨⟨trivial, (n1 e78_3_ok), ⟨trivial, (n1 e206_1_ok), trivial⟩⟩, n0, trivial⟩, n0, trivial⟩⟩⟩⟩⟩
theorem e77_5_ok : EntOk F0 77 e77_5 := chk_ok t4_ok 1 e77_5 e77_5_c (.nil _ _)
theorem e82_5_ok : EntOk F0 82 e82_5 := chk_ok t4_ok 4 e82_5 e82_5_c (.nil _ _)
theorem e18_5_ok : EntOk F0 18 e18_5 := chk_ok t4_ok 21 e18_5 e18_5_c (e18_4_ok)
theorem e6_5_ok : EntOk F0 6 e6_5 := chk_ok t4_ok 1 e6_5 e6_5_c (.nil _ _)
theorem t5_ok : TabOk F0 t5 := ⟨⟨⟨⟨trivial, n0, ⟨⟨trivial, (n1 e39_1_ok), trivial⟩, n0, ⟨trivial, (n1 e55_4_ok), trivial⟩⟩⟩, n0, ⟨⟨⟨trivial, (n1 e35_1_ok), trivial⟩, n0, ⟨trivial, n0, ⟨⟨trivial, (n1 e179_1_ok), trivial⟩, n0, trivial⟩⟩⟩, (n1 e11_2d_ok), ⟨⟨trivial, n0, ⟨trivial, (n1 e107_2_ok), trivial⟩⟩, n0, ⟨trivial, (n1 e59_1_ok), trivial⟩⟩⟩⟩, n0, ⟨⟨⟨⟨⟨⟨trivial, (n1 e129_3_ok), trivial⟩, n0, trivial⟩, n0, trivial⟩, n0, ⟨⟨trivial, (n1 e81_4_ok), trivial⟩, n0, trivial⟩⟩, (n1 e9_1_ok), ⟨⟨⟨trivial, (n1 e73_2h_ok), trivial⟩, (n1 e41_2_ok), ⟨⟨trivial, (n1 e169_3_ok), trivial⟩, n0, trivial⟩⟩, n0, ⟨trivial, n0, ⟨trivial, (n1 e121_2_ok), trivial⟩⟩⟩⟩, (n1 e5_2_ok), ⟨⟨⟨trivial, (n1 e37_1_ok), trivial⟩, n0, ⟨⟨trivial, (n1 e85_4_ok), trivial⟩, n0, trivial⟩⟩, (n1 e13_2_ok), ⟨⟨⟨⟨trivial, (n1 e141_2a_ok), trivial⟩, (n1 e77_5_ok), trivial⟩, n0, ⟨⟨trivial, (n1 e173_2_ok), trivial⟩, n0, trivial⟩⟩, n0, ⟨⟨trivial, (n1 e93_1_ok), trivial⟩, n0, ⟨trivial, (n1 e125_4_ok), trivial⟩⟩⟩⟩⟩⟩, n0, ⟨⟨⟨⟨⟨trivial, n0, ⟨trivial, (n1 e96_3_ok), ⟨trivial, (n1 e224_2_ok), trivial⟩⟩⟩, n0, trivial⟩, n0, ⟨⟨⟨trivial, (n1 e72_2_ok), trivial⟩, n0, trivial⟩, n0, ⟨⟨trivial, n0, ⟨trivial, (n1 e216_3_ok), trivial⟩⟩, (n1 e56_4a_ok), trivial⟩⟩⟩, n0, ⟨⟨⟨trivial, n0, ⟨⟨trivial, (n1 e164_4_ok), trivial⟩, n0, trivial⟩⟩, n0, trivial⟩, (n1 e12_1_ok), trivial⟩⟩, n0, ⟨⟨⟨⟨⟨⟨trivial, (n1 e130_3_ok), trivial⟩, n0, trivial⟩, n0, trivial⟩, (n1 e18_5_ok), ⟨⟨trivial, (n1 e82_5_ok), ⟨trivial, (n1 e210_1_ok), trivial⟩⟩, n0, trivial⟩⟩, (n1 e10_1_ok), ⟨trivial, (n1 e26_1_ok), trivial⟩⟩, (n1 e6_5_ok), ⟨⟨⟨trivial, n0, ⟨trivial, n0, ⟨trivial, (n1 e230_1_ok), trivial⟩⟩⟩, (n1 e22_1_ok), ⟨trivial, n0, ⟨⟨trivial, (n1 e182_1_ok), trivial⟩, n0, trivial⟩⟩⟩, n0, ⟨⟨⟨trivial, (n1 e78_3_ok), ⟨trivial, (n1 e206_1_ok), trivial⟩⟩, n0, trivial⟩, n0, trivial⟩⟩⟩⟩⟩
theorem e52_6_ok : EntOk F0 52 e52_6 := chk_ok t5_ok 1 e52_6 e52_6_c (.nil _ _)
theorem e86_6_ok : EntOk F0 86 e86_6 := chk_ok t5_ok 1 e86_6 e86_6_c (.nil _ _)
theorem e6_6_ok : EntOk F0 6 e6_6 := chk_ok t5_ok 20 e6_6 e6_6_c (e6_5_ok)
theorem e6_6a_ok : EntOk F0 6 e6_6a := chk_ok t5_ok 1 e6_6a e6_6a_c (e6_6_ok)
theorem e14_6_ok : EntOk F0 14 e14_6 := chk_ok t5_ok 12 e14_6 e14_6_c (.nil _ _)
theorem e14_6a_ok : EntOk F0 14 e14_6a := chk_ok t5_ok 3 e14_6a e14_6a_c (e14_6_ok)
theorem e14_6b_ok : EntOk F0 14 e14_6b := chk_ok t5_ok 1 e14_6b e14_6b_c (e14_6a_ok)
theorem e15_6_ok : EntOk F0 15 e15_6 := chk_ok t5_ok 10 e15_6 e15_6_c (.nil _ _)
theorem e15_6a_ok : EntOk F0 15 e15_6a := chk_ok t5_ok 2 e15_6a e15_6a_c (e15_6_ok)
theorem e15_6b_ok : EntOk F0 15 e15_6b := chk_ok t5_ok 1 e15_6b e15_6b_c (e15_6a_ok)
theorem e7_6_ok : EntOk F0 7 e7_6 := chk_ok t5_ok 7 e7_6 e7_6_c (.nil _ _)
theorem e8_6_ok : EntOk F0 8 e8_6 := chk_ok t5_ok 6 e8_6 e8_6_c (.nil _ _)
theorem t6_ok : TabOk F0 t6 := ⟨⟨⟨⟨⟨trivial, (n1 e15_6b_ok), trivial⟩, (n1 e7_6_ok), ⟨⟨trivial, (n1 e39_1_ok), trivial⟩, n0, ⟨trivial, (n1 e55_4_ok), trivial⟩⟩⟩, n0, ⟨⟨⟨trivial, (n1 e35_1_ok), trivial⟩, n0, ⟨trivial, n0, ⟨⟨trivial, (n1 e179_1_ok), trivial⟩, n0, trivial⟩⟩⟩, (n1 e11_2d_ok), ⟨⟨trivial, n0, ⟨trivial, (n1 e107_2_ok), trivial⟩⟩, n0, ⟨trivial, (n1 e59_1_ok), trivial⟩⟩⟩⟩, n0, ⟨⟨⟨⟨⟨⟨trivial, (n1 e129_3_ok), trivial⟩, n0, trivial⟩, n0, trivial⟩, n0, ⟨⟨trivial, (n1 e81_4_ok), trivial⟩, n0, trivial⟩⟩, (n1 e9_1_ok), ⟨⟨⟨trivial, (n1 e73_2h_ok), trivial⟩, (n1 e41_2_ok), ⟨⟨trivial, (n1 e169_3_ok), trivial⟩, n0, trivial⟩⟩, n0, ⟨trivial, n0, ⟨trivial, (n1 e121_2_ok), trivial⟩⟩⟩⟩, (n1 e5_2_ok), ⟨⟨⟨trivial, (n1 e37_1_ok), trivial⟩, n0, ⟨⟨trivial, (n1 e85_4_ok), trivial⟩, n0, trivial⟩⟩, (n1 e13_2_ok), ⟨⟨⟨⟨trivial, (n1 e141_2a_ok), trivial⟩, (n1 e77_5_ok), trivial⟩, n0, ⟨⟨trivial, (n1 e173_2_ok), trivial⟩, n0, trivial⟩⟩, n0, ⟨⟨trivial, (n1 e93_1_ok), trivial⟩, n0, ⟨trivial, (n1 e125_4_ok), trivial⟩⟩⟩⟩⟩⟩, n0, ⟨⟨⟨⟨⟨trivial, n0, ⟨trivial, (n1 e96_3_ok), ⟨trivial, (n1 e224_2_ok), trivial⟩⟩⟩, n0, trivial⟩, (n1 e8_6_ok), ⟨⟨⟨trivial, (n1 e72_2_ok), trivial⟩, n0, trivial⟩, n0, ⟨⟨trivial, n0, ⟨trivial, (n1 e216_3_ok), trivial⟩⟩, (n1 e56_4a_ok), trivial⟩⟩⟩, n0, ⟨⟨⟨trivial, n0, ⟨⟨trivial, (n1 e164_4_ok), trivial⟩, n0, trivial⟩⟩, n0, ⟨trivial, (n1 e52_6_ok), trivial⟩⟩, (n1 e12_1_ok), trivial⟩⟩, n0, ⟨⟨⟨⟨⟨⟨trivial, (n1 e130_3_ok), trivial⟩, n0, trivial⟩, n0, trivial⟩, (n1 e18_5_ok), ⟨⟨trivial, (n1 e82_5_ok), ⟨trivial, (n1 e210_1_ok), trivial⟩⟩, n0, trivial⟩⟩, (n1 e10_1_ok), ⟨trivial, (n1 e26_1_ok), trivial⟩⟩, (n1 e6_6a_ok), ⟨⟨⟨trivial, n0, ⟨trivial, n0, ⟨trivial, (n1 e230_1_ok), trivial⟩⟩⟩, (n1 e22_1_ok), ⟨⟨trivial, (n1 e86_6_ok), trivial⟩, n0, ⟨⟨trivial, (n1 e182_1_ok), trivial⟩, n0, trivial⟩⟩⟩, (n1 e14_6b_ok), ⟨⟨⟨trivial, (n1 e78_3_ok), ⟨trivial, (n1 e206_1_ok), trivial⟩⟩, n0, trivial⟩, n0, trivial⟩⟩⟩⟩⟩
theorem e54_7_ok : EntOk F0 54 e54_7 := chk_ok t6_ok 1 e54_7 e54_7_c (.nil _ _)
theorem t7_ok : TabOk F0 t7 := ⟨⟨⟨⟨⟨trivial, (n1 e15_6b_ok), trivial⟩, (n1 e7_6_ok), ⟨⟨trivial, (n1 e39_1_ok), trivial⟩, n0, ⟨trivial, (n1 e55_4_ok), trivial⟩⟩⟩, n0, ⟨⟨⟨trivial, (n1 e35_1_ok), trivial⟩, n0, ⟨trivial, n0, ⟨⟨trivial, (n1 e179_1_ok), trivial⟩, n0, trivial⟩⟩⟩, (n1 e11_2d_ok), ⟨⟨trivial, n0, ⟨trivial, (n1 e107_2_ok), trivial⟩⟩, n0, ⟨trivial, (n1 e59_1_ok), trivial⟩⟩⟩⟩, n0, ⟨⟨⟨⟨⟨⟨trivial, (n1 e129_3_ok), trivial⟩, n0, trivial⟩, n0, trivial⟩, n0, ⟨⟨trivial, (n1 e81_4_ok), trivial⟩, n0, trivial⟩⟩, (n1 e9_1_ok), ⟨⟨⟨trivial, (n1 e73_2h_ok), trivial⟩, (n1 e41_2_ok), ⟨⟨trivial, (n1 e169_3_ok), trivial⟩, n0, trivial⟩⟩, n0, ⟨trivial, n0, ⟨trivial, (n1 e121_2_ok), trivial⟩⟩⟩⟩, (n1 e5_2_ok), ⟨⟨⟨trivial, (n1 e37_1_ok), trivial⟩, n0, ⟨⟨trivial, (n1 e85_4_ok), trivial⟩, n0, trivial⟩⟩, (n1 e13_2_ok), ⟨⟨⟨⟨trivial, (n1 e141_2a_ok), trivial⟩, (n1 e77_5_ok), trivial⟩, n0, ⟨⟨trivial, (n1 e173_2_ok), trivial⟩, n0, trivial⟩⟩, n0, ⟨⟨trivial, (n1 e93_1_ok), trivial⟩, n0, ⟨trivial, (n1 e125_4_ok), trivial⟩⟩⟩⟩⟩⟩, n0, ⟨⟨⟨⟨⟨trivial, n0, ⟨trivial, (n1 e96_3_ok), ⟨trivial, (n1 e224_2_ok), trivial⟩⟩⟩, n0, trivial⟩, (n1 e8_6_ok), ⟨⟨⟨trivial, (n1 e72_2_ok), trivial⟩, n0, trivial⟩, n0, ⟨⟨trivial, n0, ⟨trivial, (n1 e216_3_ok), trivial⟩⟩, (n1 e56_4a_ok), trivial⟩⟩⟩, n0, ⟨⟨⟨trivial, n0, ⟨⟨trivial, (n1 e164_4_ok), trivial⟩, n0, trivial⟩⟩, n0, ⟨trivial, (n1 e52_6_ok), trivial⟩⟩, (n1 e12_1_ok), trivial⟩⟩, n0, ⟨⟨⟨⟨⟨⟨trivial, (n1 e130_3_ok), trivial⟩, n0, trivial⟩, n0, trivial⟩, (n1 e18_5_ok), ⟨⟨trivial, (n1 e82_5_ok), ⟨trivial, (n1 e210_1_ok), trivial⟩⟩, n0, trivial⟩⟩, (n1 e10_1_ok), ⟨trivial, (n1 e26_1_ok), trivial⟩⟩, (n1 e6_6a_ok), ⟨⟨⟨trivial, n0, ⟨trivial, n0, ⟨trivial, (n1 e230_1_ok), trivial⟩⟩⟩, (n1 e22_1_ok), ⟨⟨trivial, (n1 e86_6_ok), trivial⟩, (n1 e54_7_ok), ⟨⟨trivial, (n1 e182_1_ok), trivial⟩, n0, trivial⟩⟩⟩, (n1 e14_6b_ok), ⟨⟨⟨trivial, (n1 e78_3_ok), ⟨trivial, (n1 e206_1_ok), trivial⟩⟩, n0, trivial⟩, n0, trivial⟩⟩⟩⟩⟩
theorem e16_8_ok : EntOk F0 16 e16_8 := chk_ok t7_ok 1 e16_8 e16_8_c (.nil _ _)
theorem t8_ok : TabOk F0 t8 := ⟨⟨⟨⟨⟨trivial, (n1 e15_6b_ok), trivial⟩, (n1 e7_6_ok), ⟨⟨trivial, (n1 e39_1_ok), trivial⟩, n0, ⟨trivial, (n1 e55_4_ok), trivial⟩⟩⟩, n0, ⟨⟨⟨trivial, (n1 e35_1_ok), trivial⟩, n0, ⟨trivial, n0, ⟨⟨trivial, (n1 e179_1_ok), trivial⟩, n0, trivial⟩⟩⟩, (n1 e11_2d_ok), ⟨⟨trivial, n0, ⟨trivial, (n1 e107_2_ok), trivial⟩⟩, n0, ⟨trivial, (n1 e59_1_ok), trivial⟩⟩⟩⟩, n0, ⟨⟨⟨⟨⟨⟨trivial, (n1 e129_3_ok), trivial⟩, n0, trivial⟩, n0, trivial⟩, n0, ⟨⟨trivial, (n1 e81_4_ok), trivial⟩, n0, trivial⟩⟩, (n1 e9_1_ok), ⟨⟨⟨trivial, (n1 e73_2h_ok), trivial⟩, (n1 e41_2_ok), ⟨⟨trivial, (n1 e169_3_ok), trivial⟩, n0, trivial⟩⟩, n0, ⟨trivial, n0, ⟨trivial, (n1 e121_2_ok), trivial⟩⟩⟩⟩, (n1 e5_2_ok), ⟨⟨⟨trivial, (n1 e37_1_ok), trivial⟩, n0, ⟨⟨trivial, (n1 e85_4_ok), trivial⟩, n0, trivial⟩⟩, (n1 e13_2_ok), ⟨⟨⟨⟨trivial, (n1 e141_2a_ok), trivial⟩, (n1 e77_5_ok), trivial⟩, n0, ⟨⟨trivial, (n1 e173_2_ok), trivial⟩, n0, trivial⟩⟩, n0, ⟨⟨trivial, (n1 e93_1_ok), trivial⟩, n0, ⟨trivial, (n1 e125_4_ok), trivial⟩⟩⟩⟩⟩⟩, n0, ⟨⟨⟨⟨⟨trivial, n0, ⟨trivial, (n1 e96_3_ok), ⟨trivial, (n1 e224_2_ok), trivial⟩⟩⟩, (n1 e16_8_ok), trivial⟩, (n1 e8_6_ok), ⟨⟨⟨trivial, (n1 e72_2_ok), trivial⟩, n0, trivial⟩, n0, ⟨⟨trivial, n0, ⟨trivial, (n1 e216_3_ok), trivial⟩⟩, (n1 e56_4a_ok), trivial⟩⟩⟩, n0, ⟨⟨⟨trivial, n0, ⟨⟨trivial, (n1 e164_4_ok), trivial⟩, n0, trivial⟩⟩, n0, ⟨trivial, (n1 e52_6_ok), trivial⟩⟩, (n1 e12_1_ok), trivial⟩⟩, n0, ⟨⟨⟨⟨⟨⟨trivial, (n1 e130_3_ok), trivial⟩, n0, trivial⟩, n0, trivial⟩, (n1 e18_5_ok), ⟨⟨trivial, (n1 e82_5_ok), ⟨trivial, (n1 e210_1_ok), trivial⟩⟩, n0, trivial⟩⟩, (n1 e10_1_ok), ⟨trivial, (n1 e26_1_ok), trivial⟩⟩, (n1 e6_6a_ok), ⟨⟨⟨trivial, n0, ⟨trivial, n0, ⟨trivial, (n1 e230_1_ok), trivial⟩⟩⟩, (n1 e22_1_ok), ⟨⟨trivial, (n1 e86_6_ok), trivial⟩, (n1 e54_7_ok), ⟨⟨trivial, (n1 e182_1_ok), trivial⟩, n0, trivial⟩⟩⟩, (n1 e14_6b_ok), ⟨⟨⟨trivial, (n1 e78_3_ok), ⟨trivial, (n1 e206_1_ok), trivial⟩⟩, n0, trivial⟩, n0, trivial⟩⟩⟩⟩⟩
theorem e4_9_ok : EntOk F0 4 e4_9 := chk_ok t8_ok 1 e4_9 e4_9_c (.nil _ _)
theorem t9_ok : TabOk F0 t9 := ⟨⟨⟨⟨⟨trivial, (n1 e15_6b_ok), trivial⟩, (n1 e7_6_ok), ⟨⟨trivial, (n1 e39_1_ok), trivial⟩, n0, ⟨trivial, (n1 e55_4_ok), trivial⟩⟩⟩, n0, ⟨⟨⟨trivial, (n1 e35_1_ok), trivial⟩, n0, ⟨trivial, n0, ⟨⟨trivial, (n1 e179_1_ok), trivial⟩, n0, trivial⟩⟩⟩, (n1 e11_2d_ok), ⟨⟨trivial, n0, ⟨trivial, (n1 e107_2_ok), trivial⟩⟩, n0, ⟨trivial, (n1 e59_1_ok), trivial⟩⟩⟩⟩, n0, ⟨⟨⟨⟨⟨⟨trivial, (n1 e129_3_ok), trivial⟩, n0, trivial⟩, n0, trivial⟩, n0, ⟨⟨trivial, (n1 e81_4_ok), trivial⟩, n0, trivial⟩⟩, (n1 e9_1_ok), ⟨⟨⟨trivial, (n1 e73_2h_ok), trivial⟩, (n1 e41_2_ok), ⟨⟨trivial, (n1 e169_3_ok), trivial⟩, n0, trivial⟩⟩, n0, ⟨trivial, n0, ⟨trivial, (n1 e121_2_ok), trivial⟩⟩⟩⟩, (n1 e5_2_ok), ⟨⟨⟨trivial, (n1 e37_1_ok), trivial⟩, n0, ⟨⟨trivial, (n1 e85_4_ok), trivial⟩, n0, trivial⟩⟩, (n1 e13_2_ok), ⟨⟨⟨⟨trivial, (n1 e141_2a_ok), trivial⟩, (n1 e77_5_ok), trivial⟩, n0, ⟨⟨trivial, (n1 e173_2_ok), trivial⟩, n0, trivial⟩⟩, n0, ⟨⟨trivial, (n1 e93_1_ok), trivial⟩, n0, ⟨trivial, (n1 e125_4_ok), trivial⟩⟩⟩⟩⟩⟩, n0, ⟨⟨⟨⟨⟨trivial, n0, ⟨trivial, (n1 e96_3_ok), ⟨trivial, (n1 e224_2_ok), trivial⟩⟩⟩, (n1 e16_8_ok), trivial⟩, (n1 e8_6_ok), ⟨⟨⟨trivial, (n1 e72_2_ok), trivial⟩, n0, trivial⟩, n0, ⟨⟨trivial, n0, ⟨trivial, (n1 e216_3_ok), trivial⟩⟩, (n1 e56_4a_ok), trivial⟩⟩⟩, (n1 e4_9_ok), ⟨⟨⟨trivial, n0, ⟨⟨trivial, (n1 e164_4_ok), trivial⟩, n0, trivial⟩⟩, n0, ⟨trivial, (n1 e52_6_ok), trivial⟩⟩, (n1 e12_1_ok), trivial⟩⟩, n0, ⟨⟨⟨⟨⟨⟨trivial, (n1 e130_3_ok), trivial⟩, n0, trivial⟩, n0, trivial⟩, (n1 e18_5_ok), ⟨⟨trivial, (n1 e82_5_ok), ⟨trivial, (n1 e210_1_ok), trivial⟩⟩, n0, trivial⟩⟩, (n1 e10_1_ok), ⟨trivial, (n1 e26_1_ok), trivial⟩⟩, (n1 e6_6a_ok), ⟨⟨⟨trivial, n0, ⟨trivial, n0, ⟨trivial, (n1 e230_1_ok), trivial⟩⟩⟩, (n1 e22_1_ok), ⟨⟨trivial, (n1 e86_6_ok), trivial⟩, (n1 e54_7_ok), ⟨⟨trivial, (n1 e182_1_ok), trivial⟩, n0, trivial⟩⟩⟩, (n1 e14_6b_ok), ⟨⟨⟨trivial, (n1 e78_3_ok), ⟨trivial, (n1 e206_1_ok), trivial⟩⟩, n0, trivial⟩, n0, trivial⟩⟩⟩⟩⟩
theorem tz_ok : TabOk F0 tz := t9_ok
theorem law_all (n : Nat) (h : n < 256) : AloneOk F0 3 [.v (.s (.int .u8 (.ofNat n)))] (B true) := entry tz_ok (run_all n h)
end Go.Pv.E
end

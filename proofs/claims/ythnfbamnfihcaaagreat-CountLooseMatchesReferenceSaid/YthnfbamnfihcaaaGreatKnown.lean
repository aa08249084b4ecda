/- A part of the proof. No condition. -/
import Derived.Test.YthnfbamnfihcaaaGreatPart3
import Derived.Test.YthnfbamnfihcaaaGreatRuna
import Derived.Test.YthnfbamnfihcaaaGreatRunb
import Derived.Test.YthnfbamnfihcaaaGreatRunc
import Derived.Test.YthnfbamnfihcaaaGreatRund
import Derived.Test.YthnfbamnfihcaaaGreatRune
import Derived.Test.YthnfbamnfihcaaaGreatRunz
set_option linter.unusedVariables false
section
noncomputable section
set_option maxRecDepth 100000
namespace Go.Pv.E2
open Go.Vm Go.Pv.K
theorem O6.of {α:Type}:∀{P:Key->α->Prop} {t:Tr α},(∀k x,t.get k=some x->P k x)->O6 P t
 |_,.z,_=>trivial
 |P,.n l v r,h=>⟨O6.of λk x e=>h (.o k) x e,λx e=>h .h x e,O6.of λk x e=>h (.i k) x e⟩
theorem JJ {t:Tr Ent} {f:Nat} (ht:O2 F0 t):∀e:Ent,YW t f e=true->Tc F0 f e
 |[],_=>.nil _ _
 |(xs,r)::l,h=>by obtain⟨h1,h2⟩:=J3 (c:=runK F0 (known UC t) 1000000 f xs (λv=>eqA v r)) (a:=YW t f l) h;exact .cons (entry ht h1) (JJ ht l h2)
theorem step {t:Tr Ent} (ht:O2 F0 t):∀l:List (Nat×Ent),lA t l=true->O2 F0 (nx t l)
 |[],_=>ht
 |d::l,h=>by
  obtain⟨h1,h2⟩:=J3 (c:=YW t d.1 d.2) (a:=lA t l) h;have h3:=step ht l h2;refine O6.of λk x e=>?_;replace e:((nx t l).upd (Key.kn d.1) (some (d.2++(((nx t l).get (Key.kn d.1)).getD [])))).get k=some x:=e;rw[Tr.D1] at e;split at e
  ·next hk=>
   subst hk;cases e;have ho:Tc F0 d.1 (((nx t l).get (Key.kn d.1)).getD []):=by
    cases ho:(nx t l).get (Key.kn d.1) with
    |none=>exact .nil _ _
    |some o=>
     have:=h3.get _ _ ho
     rwa [Key.toNat_kn] at this
   rw[Key.toNat_kn];exact(JJ ht d.2 h1).append ho
  ·exact h3.get k x e
theorem xk0:O2 F0 xt0:=trivial
theorem xk1:O2 F0 xt1:=step xk0 xg1 xc1
theorem xk2:O2 F0 xt2:=step xk1 xg2 xc2
theorem xk3:O2 F0 xt3:=step xk2 xg3 xc3
theorem xk4:O2 F0 xt4:=step xk3 xg4 xc4
theorem xk5:O2 F0 xt5:=step xk4 xg5 xc5
theorem xk6:O2 F0 xt6:=step xk5 xg6 xc6
theorem xk7:O2 F0 xt7:=step xk6 xg7 xc7
theorem xk8:O2 F0 xt8:=step xk7 xg8 xc8
theorem xk9:O2 F0 xt9:=step xk8 xg9 xc9
theorem san:A3 F0 5 [] (B true):=entry xk9 YZ
end Go.Pv.E2
end

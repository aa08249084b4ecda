/- A part of the proof that the law CountTower answers true. No condition. -/
import Derived.Test.YtdhdjlocnjailaaGreatVal
import Derived.Test.YtdhdjlocnjailaaGreatCode1
import Derived.Test.YtdhdjlocnjailaaGreatFast
set_option linter.unusedVariables false
set_option linter.unusedSimpArgs false
set_option linter.unusedSectionVars false
section
namespace Go.Pv
open Go.Vm
open Go.Vm.Key (kn)
def PLe' (c c' : PCaller) : Prop := ∀ f a h r, c f a h = some r → c' f a h = some r
variable {c c' : PCaller} {F : Funcs} {K : Known}
theorem actP_mono (hc : PLe' c c') {a : VAct} {args : List PA} {h : PHeap} {r : PA × PHeap} (e : actP c a args h = some r) : actP c' a args h = some r := by
  cases a with
  | op o => exact e
  | call f => exact hc _ _ _ _ e
  | callv =>
    simp only [actP] at e ⊢
    split at e
    · exact hc _ _ _ _ e
    · cases e
theorem operP_mono (hc : PLe' c c') {o : VOper} {fr : PFr} {h : PHeap} {r : PFr × PHeap} (e : operP c o fr h = some r) : operP c' o fr h = some r := by
  unfold operP at e ⊢
  split at e
  · split at e
    · split at e
      · next v h' hr => rw [actP_mono hc hr]; exact e
      · cases e
    · cases e
  · exact e
  · cases e
theorem opsP_mono (hc : PLe' c c') : ∀ (l : List VOper) {fr : PFr} {h : PHeap} {r : PFr × PHeap}, opsP c l fr h = some r → opsP c' l fr h = some r
  | [], _, _, _, e => e
  | o :: l, fr, h, r, e => by
    simp only [opsP] at e ⊢
    split at e
    · next fr1 h1 h2 => rw [operP_mono hc h2]; exact opsP_mono hc l e
    · cases e
theorem drawnP_mono (hc : PLe' c c') (lo hi : Key) (n : Nat) : ∀ (l : List DOp) {k : Key} {snaps : Snaps} {fr : PFr} {h : PHeap} {r : PFr × PHeap}, drawnP c lo hi n l k snaps fr h = some r → drawnP c' lo hi n l k snaps fr h = some r
  | [], _, _, _, _, _, e => e
  | d :: l, k, snaps, fr, h, r, e => by
    simp only [drawnP] at e ⊢
    split at e
    · split at e
      · next fr1 h1 h2 => rw [operP_mono hc h2]; exact drawnP_mono hc lo hi n l e
      · cases e
    · split at e
      · next fr1 h1 h2 => rw [operP_mono hc h2]; exact drawnP_mono hc lo hi n l e
      · cases e
    · split at e
      · split at e
        · split at e
          · split at e
            · next hcond =>
              simp only [hcond, if_true]
              exact drawnP_mono hc lo hi n l e
            · cases e
          · cases e
        · cases e
      · exact drawnP_mono hc lo hi n l e
      · cases e
def PXLe (x x' : PEx) : Prop := ∀ cd fr h r, x cd fr h = some r → x' cd fr h = some r
theorem bodyP_mono {x x' : PEx} (hx : PXLe x x') : PLe' (bodyP F x) (bodyP F x') := by
  intro f a h r e
  simp only [bodyP] at e ⊢
  split at e
  · next vf hf =>
    split at e
    · cases e
    · next x1 fr1 h1 hne hr =>
      rw [hx _ _ _ _ hr]
      cases x1 with
      | exit id => exact absurd rfl (hne id)
      | normal => exact e
      | ret => exact e
    · cases e
  · cases e
theorem aloneP_mono {x x' : PEx} (hx : PXLe x x') {f : Nat} {xs : List PA} {r : PA} (e : aloneP F x f xs = some r) : aloneP F x' f xs = some r := by
  unfold aloneP at e ⊢
  split at e
  · next r0 g0 hb => rw [bodyP_mono hx _ _ _ _ hb]; exact e
  · cases e
theorem callP_mono {x x' : PEx} (hx : PXLe x x') : PLe' (callP F K x) (callP F K x') := by
  intro f a h r e
  unfold callP at e ⊢
  split at e
  · next hp =>
    rw [if_pos hp]
    split at e
    · split at e
      · exact e
      · split at e
        · next r1 hr => rw [aloneP_mono hx hr]; exact e
        · cases e
    · cases e
  · next hp => rw [if_neg hp]; exact bodyP_mono hx _ _ _ _ e
theorem execP_step : ∀ n, PXLe (execP F K n) (execP F K (n + 1))
  | 0 => by intro cd fr h r e; cases e
  | n + 1 => by
    have ih := execP_step n
    have hc := callP_mono (F := F) (K := K) ih
    intro cd fr h r e
    cases cd with
    | skip => exact e
    | region ops =>
      rw [exP_region] at e ⊢
      split at e
      · next fr1 h1 h2 => rw [opsP_mono hc ops h2]; exact e
      · cases e
    | drawn ops =>
      rw [exP_drawn] at e ⊢
      split at e
      · next fr1 h1 h2 => rw [drawnP_mono hc _ _ _ ops h2]; exact e
      · cases e
    | seq a b =>
      rw [exP_seq] at e ⊢
      cases hr : execP F K n a fr h with
      | none => rw [hr] at e; cases e
      | some q =>
        rw [hr] at e; rw [ih _ _ _ _ hr]
        obtain ⟨x, fr1, h1⟩ := q
        cases x with
        | normal => exact ih _ _ _ _ e
        | exit id => exact e
        | ret => exact e
    | cond x a b =>
      rw [exP_cond] at e ⊢
      split at e
      · next h1 => exact ih _ _ _ _ e
      · next h1 => exact ih _ _ _ _ e
      · cases e
    | block id a =>
      rw [exP_block] at e ⊢
      cases hr : execP F K n a fr h with
      | none => rw [hr] at e; cases e
      | some q =>
        rw [hr] at e; rw [ih _ _ _ _ hr]
        obtain ⟨x, fr1, h1⟩ := q
        cases x with
        | normal => exact e
        | exit id => exact e
        | ret => exact e
    | loop a =>
      rw [exP_loop] at e ⊢
      cases hr : execP F K n a fr h with
      | none => rw [hr] at e; cases e
      | some q =>
        rw [hr] at e; rw [ih _ _ _ _ hr]
        obtain ⟨x, fr1, h1⟩ := q
        cases x with
        | normal => exact ih _ _ _ _ e
        | exit id => exact e
        | ret => exact e
    | exit id => exact e
    | ret => exact e
theorem execP_le {n m : Nat} (h : n ≤ m) : PXLe (execP F K n) (execP F K m) := by
  induction h with
  | refl => exact fun _ _ _ _ e => e
  | step _ ih => exact fun cd fr h r e => execP_step _ _ _ _ _ (ih cd fr h r e)
def Ev (F : Funcs) (K : Known) (cd : VCode) (fr : PFr) (g : PHeap) (x : VExit) (fr' : PFr) (g' : PHeap) : Prop := ∃ n, execP F K n cd fr g = some (x, fr', g')
variable {fr fr' fr'' : PFr} {g g' g'' : PHeap} {x : VExit} {a b : VCode}
theorem Ev.skip : Ev F K .skip fr g .normal fr g := ⟨1, rfl⟩
theorem Ev.ret : Ev F K .ret fr g .ret fr g := ⟨1, rfl⟩
theorem Ev.exit (id : Nat) : Ev F K (.exit id) fr g (.exit id) fr g := ⟨1, rfl⟩
theorem Ev.region {ops : List VOper} (h : ∀ call, opsP call ops fr g = some (fr', g')) : Ev F K (.region ops) fr g .normal fr' g' := ⟨1, by rw [exP_region, h]⟩
theorem Ev.seq (h1 : Ev F K a fr g .normal fr' g') (h2 : Ev F K b fr' g' x fr'' g'') : Ev F K (.seq a b) fr g x fr'' g'' := by
  obtain ⟨n, h1⟩ := h1
  obtain ⟨m, h2⟩ := h2
  exact ⟨max n m + 1, by rw [exP_seq, execP_le (Nat.le_max_left n m) _ _ _ _ h1]; exact execP_le (Nat.le_max_right n m) _ _ _ _ h2⟩
theorem Ev.seq_stop (h1 : Ev F K a fr g x fr' g') (hx : x ≠ .normal) : Ev F K (.seq a b) fr g x fr' g' := by
  obtain ⟨n, h1⟩ := h1
  refine ⟨n + 1, ?_⟩
  rw [exP_seq, h1]
  cases x with
  | normal => exact absurd rfl hx
  | exit _ => rfl
  | ret => rfl
theorem Ev.cond_t {y : VX} (hy : evalP fr y = some (.v (.s (.bool true)))) (h : Ev F K a fr g x fr' g') : Ev F K (.cond y a b) fr g x fr' g' := by
  obtain ⟨n, h⟩ := h
  exact ⟨n + 1, by rw [exP_cond, hy]; exact h⟩
theorem Ev.cond_f {y : VX} (hy : evalP fr y = some (.v (.s (.bool false)))) (h : Ev F K b fr g x fr' g') : Ev F K (.cond y a b) fr g x fr' g' := by
  obtain ⟨n, h⟩ := h
  exact ⟨n + 1, by rw [exP_cond, hy]; exact h⟩
theorem Ev.block (id : Nat) (h : Ev F K a fr g .normal fr' g') : Ev F K (.block id a) fr g .normal fr' g' := by
  obtain ⟨n, h⟩ := h
  exact ⟨n + 1, by rw [exP_block, h]⟩
theorem Ev.block_exit (id : Nat) (h : Ev F K a fr g (.exit id) fr' g') : Ev F K (.block id a) fr g .normal fr' g' := by
  obtain ⟨n, h⟩ := h
  exact ⟨n + 1, by rw [exP_block, h]; simp⟩
theorem Ev.loop_next (h1 : Ev F K a fr g .normal fr' g') (h2 : Ev F K (.loop a) fr' g' x fr'' g'') : Ev F K (.loop a) fr g x fr'' g'' := by
  obtain ⟨n, h1⟩ := h1
  obtain ⟨m, h2⟩ := h2
  exact ⟨max n m + 1, by rw [exP_loop, execP_le (Nat.le_max_left n m) _ _ _ _ h1]; exact execP_le (Nat.le_max_right n m) _ _ _ _ h2⟩
theorem Ev.loop_stop (h1 : Ev F K a fr g x fr' g') (hx : x ≠ .normal) : Ev F K (.loop a) fr g x fr' g' := by
  obtain ⟨n, h1⟩ := h1
  refine ⟨n + 1, ?_⟩
  rw [exP_loop, h1]
  cases x with
  | normal => exact absurd rfl hx
  | exit _ => rfl
  | ret => rfl
theorem Ev.loop_up {I : Nat → PFr → PHeap → Prop} {n : Nat} {Q : PFr → PHeap → Prop} (hx : x ≠ .normal) (round : ∀ j fr g, j < n → I j fr g → ∃ fr' g', Ev F K a fr g .normal fr' g' ∧ I (j + 1) fr' g')
    (last : ∀ fr g, I n fr g → ∃ fr' g', Ev F K a fr g x fr' g' ∧ Q fr' g') : ∀ (m j : Nat), j + m = n → ∀ fr g, I j fr g → ∃ fr' g', Ev F K (.loop a) fr g x fr' g' ∧ Q fr' g'
  | 0, j, h, fr, g, hi => by
    rw [Nat.add_zero] at h; subst h
    obtain ⟨fr', g', h1, h2⟩ := last fr g hi
    exact ⟨fr', g', Ev.loop_stop h1 hx, h2⟩
  | m + 1, j, h, fr, g, hi => by
    obtain ⟨fr', g', h1, h2⟩ := round j fr g (by omega) hi
    obtain ⟨fr'', g'', h3, h4⟩ := loop_up hx round last m (j + 1) (by omega) fr' g' h2
    exact ⟨fr'', g'', Ev.loop_next h1 h3, h4⟩
def quietD : List DOp → Bool
  | [] => true
  | d :: l => (match d.o.act with
    | .op o => decide (o.kind = .quiet)
    | _ => false) && quietD l
theorem quietP_heap {o : VOp} (hk : o.kind = .quiet) {args : List PA} {v : PA} (e : opP o args g = some (v, g')) : g' = g := by
  by_cases hb : blindP o = true
  · obtain ⟨r, hr⟩ := blindP_ok hb args
    rw [hr] at e
    cases r with
    | none => cases e
    | some w => simp only [Option.map_some, Option.some.injEq, Prod.mk.injEq] at e; exact e.2.symm
  · cases o <;> first | exact absurd rfl hb | (simp [VOp.kind] at hk; done) | skip
    case load1 =>
      simp only [opP, pLoad1] at e
      split at e
      · split at e
        · cases e; rfl
        · cases e
      · cases e; rfl
      · cases e
    case loadn n =>
      simp only [opP, pLoadn] at e
      split at e
      · split at e
        · cases e; rfl
        · cases e
      · split at e
        · cases e; rfl
        · cases e
      · cases e
    case lookup ks zero ok =>
      simp only [opP, pLookup] at e
      split at e
      · split at e
        · split at e
          · cases e; rfl
          · cases e
        · cases e
      · split at e
        · split at e
          · split at e
            · split at e
              · cases e; rfl
              · cases e
            · cases e
          · cases e
        · cases e
      · cases e
    case lenm =>
      simp only [opP, pLenm] at e
      split at e
      · cases e; rfl
      · split at e
        · cases e; rfl
        · cases e
      · cases e
theorem drawn_quiet {call : PCaller} (k : Key) : ∀ (l : List DOp), quietD l = true → ∀ {fr : PFr} {g : PHeap} {fr' : PFr} {g' : PHeap}, opsP call (l.map (·.o)) fr g = some (fr', g') → ∀ (r : Key), drawnP call k k 0 l r [] fr g = some (fr', g') ∧ g' = g
  | [], _, fr, g, fr', g', e, r => by cases e; exact ⟨rfl, rfl⟩
  | d :: l, hq, fr, g, fr', g', e, r => by
    simp only [quietD, Bool.and_eq_true] at hq
    obtain ⟨h1, h2⟩ := hq
    obtain ⟨⟨dst, act, xs, gd⟩, chk⟩ := d
    cases act with
    | call f => simp at h1
    | callv => simp at h1
    | op o =>
      have hk : o.kind = .quiet := by simpa using h1
      have hk2 : (VAct.op o).kind = Kind.quiet := hk
      simp only [List.map_cons, opsP, operP] at e
      simp only [drawnP, hk2]
      cases hw : wantedP fr gd with
      | none => rw [hw] at e; cases e
      | some w =>
        rw [hw] at e
        cases w with
        | false => exact drawn_quiet k l h2 e r
        | true =>
          simp only at e ⊢
          cases hf : fetchP fr xs with
          | none => rw [hf] at e; cases e
          | some as =>
            rw [hf] at e
            simp only [actP] at e ⊢
            cases ho : opP o as g with
            | none => rw [ho] at e; cases e
            | some q =>
              obtain ⟨v, g1⟩ := q
              rw [ho] at e
              have := quietP_heap hk ho
              subst this
              have hout : outsideP k k (rdP o as) = true := by
                cases rdP o as with
                | none => rfl
                | some q => simp only [outsideP, Bool.or_eq_true, Nat.blt_eq, Nat.ble_eq]; omega
              simp only [hout, noFrz, Bool.or_true, List.drop_nil, sameP, Bool.and_self, if_true]
              exact drawn_quiet k l h2 e r
theorem nAlloc_quiet : ∀ (l : List DOp), quietD l = true → nAlloc l = 0
  | [], _ => rfl
  | d :: l, h => by
    simp only [quietD, Bool.and_eq_true] at h
    obtain ⟨h1, h2⟩ := h
    rw [nAlloc_cons, nAlloc_quiet l h2]
    split at h1
    · next o ho =>
      have : o.kind = .quiet := by simpa using h1
      simp [ho, VAct.kind, this]
    · cases h1
theorem Ev.drawn {ds : List DOp} (hq : quietD ds = true) (h : ∀ call, opsP call (ds.map (·.o)) fr g = some (fr', g)) : Ev F K (.drawn ds) fr g .normal fr' g := by
  refine ⟨1, ?_⟩
  rw [exP_drawn, nAlloc_quiet ds hq]
  have := (drawn_quiet g.next ds hq (h (callP F K (execP F K 0))) g.next).1
  show (match drawnP _ g.next g.next 0 ds g.next [] fr g with | some (fr, h) => some (VExit.normal, fr, h) | none => none) = _
  rw [this]
theorem opsP_op {call : PCaller} {d : Option Key} {o : VOp} {xs : List VX} {l : List VOper} {args : List PA} {v : PA} (h1 : fetchP fr xs = some args) (h2 : opP o args g = some (v, g')) (h3 : opsP call l (putP fr d v) g' = some (fr'', g'')) :
    opsP call (⟨d, .op o, xs, none⟩ :: l) fr g = some (fr'', g'') := by
  simp only [opsP, operP, wantedP, h1, actP, h2, h3]
end Go.Pv
end
section
namespace Go.Pv.M
open Go.Vm Go.Vm.C
open Go.Vm.Key (kn)
variable {F : Funcs} {K : Known}
def d1 : List DOp := [⟨m k34 k8,0⟩,⟨m k35 k0,0⟩,⟨m k36 k7,0⟩,⟨ix k37 1 k35 k36,0⟩,⟨l k38 k37,0⟩,⟨a k39 (.conv .u64) k38,0⟩,⟨m k40 k1,0⟩,⟨m k41 k9,0⟩,⟨ix k42 1 k40 k41,0⟩,⟨l k43 k42,0⟩,⟨a k44 (.conv .u64) k43,0⟩,⟨bi k45 .mul (.t k39) (.t k44),0⟩,⟨m k46 k6,0⟩,⟨m k47 k7,0⟩,⟨m k48 k9,0⟩,⟨bi k49 .add (.t k47) (.t k48),0⟩,⟨ix k50 1 k46 k49,0⟩,⟨l k51 k50,0⟩,⟨a k52 (.conv .u64) k51,0⟩,⟨bi k53 .add (.t k45) (.t k52),0⟩,⟨bi k54 .add (.t k34) (.t k53),0⟩,⟨m k8 k54,0⟩]
def r1 : List VOper := [m k55 k6,m k56 k7,m k57 k9,bi k58 .add (.t k56) (.t k57),m k59 k8,a k60 (.conv .u32) k59,ix k61 1 k55 k58,st 1 k61 (.t k60)]
def r2 : List VOper := [m k62 k8,bi k63 .shr (.t k62) (.c (.v (.s (.int .u64 (.ofNat 32))))),m k8 k63]
def lim (n : Nat) : PV := .int .u32 (.ofNat n)
def limbs (xs : List Nat) : PA := .v (.s (.lst 1 (xs.map fun n => [lim n]) none))
structure In (xs ys out : List Nat) (i j c : Nat) (fr : PFr) (g : PHeap) : Prop where
  a : fr.get k0 = some (limbs xs)
  b : fr.get k1 = some (limbs ys)
  o : fr.get k6 = some (.v (.s (.slice .h 0 out.length 1 (some out.length))))
  i : fr.get k7 = some (.int .i64 (.ofNat i))
  c : fr.get k8 = some (.int .u64 (.ofNat c))
  j : fr.get k31 = some (.int .i64 (.ofNat j))
  n : fr.get k30 = some (.int .i64 (.ofNat ys.length))
  h : ∃ log, g.get .h = some ⟨.cells (out.map lim), true, false, [], log⟩
theorem wrapU {n : Nat} (h : n ≤ 18446744073709551615) : IntKind.u64.wrap (.ofNat n) = .ofNat n := by
  unfold IntKind.wrap
  have h1 : (Int.ofNat n) % (2 ^ IntKind.u64.bits : Int) = Int.ofNat n := by
    show (Int.ofNat n) % (18446744073709551616 : Int) = _
    simp only [Int.ofNat_eq_natCast]; omega
  simp only [h1]
  rw [if_neg]
  simp [IntKind.signed]
theorem wrapI {n : Nat} (h : n ≤ 9223372036854775807) : IntKind.i64.wrap (.ofNat n) = .ofNat n := by
  unfold IntKind.wrap
  have h1 : (Int.ofNat n) % (2 ^ IntKind.i64.bits : Int) = Int.ofNat n := by
    show (Int.ofNat n) % (18446744073709551616 : Int) = _
    simp only [Int.ofNat_eq_natCast]; omega
  simp only [h1]
  rw [if_neg]
  simp only [Bool.and_eq_true, not_and, decide_eq_true_eq]
  intro _
  show ¬ (Int.ofNat n ≥ (9223372036854775808 : Int))
  simp only [Int.ofNat_eq_natCast]; omega
theorem wrap32 (n : Nat) : IntKind.u32.wrap (.ofNat n) = .ofNat (n % 4294967296) := by
  unfold IntKind.wrap
  have h1 : (Int.ofNat n) % (2 ^ IntKind.u32.bits : Int) = Int.ofNat (n % 4294967296) := by
    show (Int.ofNat n) % (4294967296 : Int) = _
    simp only [Int.ofNat_eq_natCast]; omega
  simp only [h1]
  rw [if_neg]
  simp [IntKind.signed]
theorem isl_lst {xs : List Nat} {i x : Nat} {g : PHeap} (h : xs[i]? = some x) : opP (.isl 1) [limbs xs, .int .i64 (.ofNat i)] g = some (.v (.s (.rp [lim x])), g) := by
  have : (xs.map fun n => [lim n])[i]? = some [lim x] := by simp [h]
  simp only [opP, pIsl, limbs]
  rw [if_pos ⟨trivial, Int.natCast_nonneg i⟩]
  simp only [Int.ofNat_eq_natCast, Int.toNat_natCast, this]
theorem conv_u64 {n : Nat} {g : PHeap} (h : n ≤ 18446744073709551615) : opP (.conv .u64) [.v (.s (lim n))] g = some (.int .u64 (.ofNat n), g) := by
  simp only [opP, pConv, lim, wrapU h]
theorem conv_u32 (n : Nat) {g : PHeap} : opP (.conv .u32) [.int .u64 (.ofNat n)] g = some (.v (.s (lim (n % 4294967296))), g) := by
  simp only [opP, pConv, wrap32, lim]
theorem mul_u64 {m n : Nat} {g : PHeap} (h : m * n ≤ 18446744073709551615) : opP (.bin .mul) [.int .u64 (.ofNat m), .int .u64 (.ofNat n)] g = some (.int .u64 (.ofNat (m * n)), g) := by
  show noPS g (ofSV (.int .u64 (IntKind.u64.wrap (Int.ofNat m * Int.ofNat n)))) = _
  have : Int.ofNat m * Int.ofNat n = Int.ofNat (m * n) := rfl
  rw [this, wrapU h]; rfl
theorem add_u64 {m n : Nat} {g : PHeap} (h : m + n ≤ 18446744073709551615) : opP (.bin .add) [.int .u64 (.ofNat m), .int .u64 (.ofNat n)] g = some (.int .u64 (.ofNat (m + n)), g) := by
  show noPS g (ofSV (.int .u64 (IntKind.u64.wrap (Int.ofNat m + Int.ofNat n)))) = _
  have : Int.ofNat m + Int.ofNat n = Int.ofNat (m + n) := rfl
  rw [this, wrapU h]; rfl
theorem add_i64 {m n : Nat} {g : PHeap} (h : m + n ≤ 9223372036854775807) : opP (.bin .add) [.int .i64 (.ofNat m), .int .i64 (.ofNat n)] g = some (.int .i64 (.ofNat (m + n)), g) := by
  show noPS g (ofSV (.int .i64 (IntKind.i64.wrap (Int.ofNat m + Int.ofNat n)))) = _
  have : Int.ofNat m + Int.ofNat n = Int.ofNat (m + n) := rfl
  rw [this, wrapI h]; rfl
theorem isl_sl {i n : Nat} {b : Key} {cap : Option Nat} {g : PHeap} (h : i < n) : opP (.isl 1) [.v (.s (.slice b 0 n 1 cap)), .int .i64 (.ofNat i)] g = some (.v (.s (.ptr b i)), g) := by
  simp only [opP, pIsl]
  rw [if_pos ⟨trivial, Int.natCast_nonneg i, by simp only [Int.ofNat_eq_natCast]; omega⟩]
  simp
theorem load_h {out : List Nat} {i z : Nat} {b : Key} {own frz : Bool} {anc : List Key} {log : List (Nat × Nat)} {g : PHeap} (hh : g.get b = some ⟨.cells (out.map lim), own, frz, anc, log⟩) (hz : out[i]? = some z) :
    opP .load1 [.v (.s (.ptr b i))] g = some (.v (.s (lim z)), g) := by
  have hlt := (List.getElem?_eq_some_iff.1 hz).1
  have hc : g.cells b = some (out.map lim) := by simp [PHeap.cells, hh]
  have hr : g.read b i 1 = some [lim z] := by
    unfold PHeap.read
    rw [if_neg (by omega), hc]
    simp only
    rw [if_pos (by simp; omega)]
    have : i < (out.map lim).length := by simpa using hlt
    rw [List.drop_eq_getElem_cons this]
    simp [(List.getElem?_eq_some_iff.1 hz).2]
  simp only [opP, pLoad1, hr]
theorem shr_32 {n : Nat} {g : PHeap} : opP (.bin .shr) [.int .u64 (.ofNat n), .int .u64 (.ofNat 32)] g = some (.int .u64 (.ofNat (n / 4294967296)), g) := by
  show noPS g (match (if isShift .shr then shiftBin .shr .u64 (Int.ofNat n) (Int.ofNat 32) else if IntKind.u64 = IntKind.u64 then intBin .shr .u64 (Int.ofNat n) (Int.ofNat 32) else none) with | some s => ofSV s | none => none) = _
  have : shiftBin .shr .u64 (Int.ofNat n) (Int.ofNat 32) = some (.int .u64 (.ofNat (n / 4294967296))) := by
    show some (SV.int .u64 ((Int.ofNat n).fdiv (4294967296 : Int))) = _
    congr 2
    cases n <;> rfl
  simp only [isShift, if_true, this]; rfl
theorem over_set (out : List Nat) (n v : Nat) (h : n < out.length) : PHeap.over (out.map lim) n [lim v] = (out.set n v).map lim := by
  simp only [PHeap.over, List.length_cons, List.length_nil]
  rw [List.map_set, List.set_eq_take_append_cons_drop, if_pos (by simpa using h)]
  simp
def put0 (g : PHeap) (out : List Nat) (log : List (Nat × Nat)) : PHeap := g.upd .h (some ⟨.cells (out.map lim), true, false, [], log⟩)
theorem store_h {out : List Nat} {n v : Nat} {log : List (Nat × Nat)} {g : PHeap} (hh : g.get .h = some ⟨.cells (out.map lim), true, false, [], log⟩) (h : n < out.length) :
    opP (.store 1) [.v (.s (.ptr .h n)), .v (.s (lim v))] g = some (.unit, put0 g (out.set n v) ((n, 1) :: log)) := by
  have hw : g.write .h n [lim v] = some (put0 g (out.set n v) ((n, 1) :: log)) := by
    simp only [PHeap.write, hh]
    rw [if_pos ⟨by simp; omega, rfl⟩, over_set _ _ _ h]
    rfl
  simp only [opP, pStore, PC.cells, List.length_cons, List.length_nil, if_true, hw]
theorem put0_get (g : PHeap) (out : List Nat) (log : List (Nat × Nat)) : (put0 g out log).get .h = some ⟨.cells (out.map lim), true, false, [], log⟩ := by
  rw [put0, pget_upd]; simp
theorem put0_next (g : PHeap) (out : List Nat) (log : List (Nat × Nat)) : (put0 g out log).next = g.next := rfl
theorem lss_i64 {m n : Nat} {g : PHeap} : opP (.bin .lss) [.int .i64 (.ofNat m), .int .i64 (.ofNat n)] g = some (.bool (decide (m < n)), g) := by
  show noPS g (ofSV (.bool (decide ((Int.ofNat m) < (Int.ofNat n))))) = _
  have : decide ((Int.ofNat m) < (Int.ofNat n)) = decide (m < n) := by
    by_cases h : m < n
    · rw [decide_eq_true h, decide_eq_true (by simp only [Int.ofNat_eq_natCast]; omega)]
    · rw [decide_eq_false h, decide_eq_false (by simp only [Int.ofNat_eq_natCast]; omega)]
  rw [this]; rfl
theorem lens_lst {xs : List Nat} {g : PHeap} : opP .lens [limbs xs] g = some (.int .i64 (.ofNat xs.length), g) := by
  simp [opP, pLens, limbs]
structure St (xs ys : List Nat) (L i : Nat) (fr : PFr) : Prop where
  fa : fr.get k0 = some (limbs xs)
  fb : fr.get k1 = some (limbs ys)
  fo : fr.get k6 = some (.v (.s (.slice .h 0 L 1 (some L))))
  fi : fr.get k7 = some (.int .i64 (.ofNat i))
  fp : fr.get k25 = some (.int .i64 (.ofNat xs.length))
  fq : fr.get k26 = some (.int .i64 (.ofNat i))
structure Si (ys : List Nat) (c j : Nat) (fr : PFr) : Prop where
  tc : fr.get k8 = some (.int .u64 (.ofNat c))
  tj : fr.get k31 = some (.int .i64 (.ofNat j))
  tn : fr.get k30 = some (.int .i64 (.ofNat ys.length))
structure So (xs ys : List Nat) (L i : Nat) (fr : PFr) : Prop where
  ga : fr.get k0 = some (limbs xs)
  gb : fr.get k1 = some (limbs ys)
  go : fr.get k6 = some (.v (.s (.slice .h 0 L 1 (some L))))
  gp : fr.get k25 = some (.int .i64 (.ofNat xs.length))
  gq : fr.get k26 = some (.int .i64 (.ofNat i))
def stepIn (x i : Nat) (ys : List Nat) : Nat → List Nat × Nat → List Nat × Nat
  | 0, p => p
  | j + 1, p => ((stepIn x i ys j p).1.set (i + j) (((stepIn x i ys j p).2 + (x * ys.getD j 0 + (stepIn x i ys j p).1.getD (i + j) 0)) % 4294967296), ((stepIn x i ys j p).2 + (x * ys.getD j 0 + (stepIn x i ys j p).1.getD (i + j) 0)) / 4294967296)
def rows (xs ys : List Nat) : Nat → List Nat → List Nat
  | 0, out => out
  | i + 1, out => (stepIn (xs.getD i 0) i ys ys.length (rows xs ys i out, 0)).1.set (i + ys.length) ((stepIn (xs.getD i 0) i ys ys.length (rows xs ys i out, 0)).2 % 4294967296)
def Lim (l : List Nat) : Prop := ∀ n ∈ l, n < 4294967296
theorem Lim.set {l : List Nat} (h : Lim l) (i v : Nat) (hv : v < 4294967296) : Lim (l.set i v) := by
  intro n hn
  rcases List.mem_or_eq_of_mem_set hn with hn | rfl
  · exact h n hn
  · exact hv
theorem Lim.getD {l : List Nat} (h : Lim l) (i : Nat) : l.getD i 0 < 4294967296 := by
  rw [List.getD_eq_getElem?_getD]
  cases hx : l[i]? with
  | none => simp
  | some v => simpa using h v (List.mem_of_getElem? hx)
theorem stepIn_ok {x i : Nat} {ys : List Nat} (hx : x < 4294967296) (hy : Lim ys) : ∀ (j : Nat) {p : List Nat × Nat}, Lim p.1 → p.2 < 4294967296 → Lim (stepIn x i ys j p).1 ∧ (stepIn x i ys j p).2 < 4294967296 ∧ (stepIn x i ys j p).1.length = p.1.length
  | 0, p, h1, h2 => ⟨h1, h2, rfl⟩
  | j + 1, p, h1, h2 => by
    obtain ⟨a1, a2, a3⟩ := stepIn_ok (i := i) hx hy j h1 h2
    have b1 := hy.getD j
    have b2 := a1.getD (i + j)
    have b3 : x * ys.getD j 0 ≤ 4294967295 * 4294967295 := Nat.mul_le_mul (by omega) (by omega)
    refine ⟨a1.set _ _ (by omega), ?_, by simp [stepIn, a3]⟩
    simp only [stepIn]; omega
theorem rows_ok {xs ys : List Nat} (hx : Lim xs) (hy : Lim ys) : ∀ (i : Nat) {out : List Nat}, Lim out → Lim (rows xs ys i out) ∧ (rows xs ys i out).length = out.length
  | 0, out, h => ⟨h, rfl⟩
  | i + 1, out, h => by
    obtain ⟨a1, a2⟩ := rows_ok hx hy i h
    obtain ⟨b1, b2, b3⟩ := stepIn_ok (i := i) (hx.getD i) hy ys.length (p := (rows xs ys i out, 0)) a1 (by show 0 < 4294967296; decide)
    exact ⟨b1.set _ _ (by omega), by simp only [rows, List.length_set, b3, a2]⟩
theorem getD_some {l : List Nat} {i : Nat} (h : i < l.length) : l[i]? = some (l.getD i 0) := by
  rw [List.getD_eq_getElem?_getD, List.getElem?_eq_getElem h]; rfl
def s3 : List VOper := [m k65 k6,m k66 k7,m k67 k1,a k68 (.lens) k67,bi k69 .add (.t k66) (.t k68),m k70 k8,a k71 (.conv .u32) k70,ix k72 1 k65 k69,st 1 k72 (.t k71)]
theorem d1_run {xs ys out : List Nat} {L i j c x y z : Nat} {fr : PFr} {g : PHeap} {log : List (Nat × Nat)} (h0 : fr.get k0 = some (limbs xs)) (h1 : fr.get k1 = some (limbs ys)) (h6 : fr.get k6 = some (PA.v (.s (.slice .h 0 L 1 (some L))))) (h7 : fr.get k7 = some (PA.int .i64 (.ofNat (i)))) (h8 : fr.get k8 = some (PA.int .u64 (.ofNat (c)))) (h9 : fr.get k9 = some (PA.int .i64 (.ofNat (j)))) (hh : g.get .h = some ⟨.cells (out.map lim), true, false, [], log⟩) (hx : xs[i]? = some x) (hy : ys[j]? = some y) (hz : out[i + j]? = some z) (hL : out.length = L) (bx : x < 4294967296) (by' : y < 4294967296) (bz : z < 4294967296) (bc : c < 4294967296) (bl : L ≤ 9223372036854775807) (hxy : x * y ≤ 18446744065119617025) (call : PCaller) :
    opsP call (d1.map (·.o)) fr g = some ((putP (putP (putP (putP (putP (putP (putP (putP (putP (putP (putP (putP (putP (putP (putP (putP (putP (putP (putP (putP (putP (putP fr (some k34) (PA.int .u64 (.ofNat (c)))) (some k35) (limbs xs)) (some k36) (PA.int .i64 (.ofNat (i)))) (some k37) (PA.v (.s (.rp [lim x])))) (some k38) (PA.v (.s (lim (x))))) (some k39) (PA.int .u64 (.ofNat (x)))) (some k40) (limbs ys)) (some k41) (PA.int .i64 (.ofNat (j)))) (some k42) (PA.v (.s (.rp [lim y])))) (some k43) (PA.v (.s (lim (y))))) (some k44) (PA.int .u64 (.ofNat (y)))) (some k45) (PA.int .u64 (.ofNat (x * y)))) (some k46) (PA.v (.s (.slice .h 0 L 1 (some L))))) (some k47) (PA.int .i64 (.ofNat (i)))) (some k48) (PA.int .i64 (.ofNat (j)))) (some k49) (PA.int .i64 (.ofNat (i + j)))) (some k50) (PA.v (.s (.ptr .h (i + j))))) (some k51) (PA.v (.s (lim (z))))) (some k52) (PA.int .u64 (.ofNat (z)))) (some k53) (PA.int .u64 (.ofNat (x * y + z)))) (some k54) (PA.int .u64 (.ofNat (c + (x * y + z))))) (some k8) (PA.int .u64 (.ofNat (c + (x * y + z))))), g) := by
  have hlt := (List.getElem?_eq_some_iff.1 hz).1
  refine opsP_op (args := [(PA.int .u64 (.ofNat (c)))]) (v := (PA.int .u64 (.ofNat (c)))) (by simp (decide := true) only [fetchP, evalP, ci, ofAV, ofCV, ofSV, putP, Tr.get_upd, if_true, if_false, h0, h1, h6, h7, h8, h9]) (rfl) ?_
  refine opsP_op (args := [(limbs xs)]) (v := (limbs xs)) (by simp (decide := true) only [fetchP, evalP, ci, ofAV, ofCV, ofSV, putP, Tr.get_upd, if_true, if_false, h0, h1, h6, h7, h8, h9]) (rfl) ?_
  refine opsP_op (args := [(PA.int .i64 (.ofNat (i)))]) (v := (PA.int .i64 (.ofNat (i)))) (by simp (decide := true) only [fetchP, evalP, ci, ofAV, ofCV, ofSV, putP, Tr.get_upd, if_true, if_false, h0, h1, h6, h7, h8, h9]) (rfl) ?_
  refine opsP_op (args := [(limbs xs), (PA.int .i64 (.ofNat (i)))]) (v := (PA.v (.s (.rp [lim x])))) (by simp (decide := true) only [fetchP, evalP, ci, ofAV, ofCV, ofSV, putP, Tr.get_upd, if_true, if_false, h0, h1, h6, h7, h8, h9]) (isl_lst hx) ?_
  refine opsP_op (args := [(PA.v (.s (.rp [lim x])))]) (v := (PA.v (.s (lim (x))))) (by simp (decide := true) only [fetchP, evalP, ci, ofAV, ofCV, ofSV, putP, Tr.get_upd, if_true, if_false, h0, h1, h6, h7, h8, h9]) (rfl) ?_
  refine opsP_op (args := [(PA.v (.s (lim (x))))]) (v := (PA.int .u64 (.ofNat (x)))) (by simp (decide := true) only [fetchP, evalP, ci, ofAV, ofCV, ofSV, putP, Tr.get_upd, if_true, if_false, h0, h1, h6, h7, h8, h9]) (conv_u64 (by omega)) ?_
  refine opsP_op (args := [(limbs ys)]) (v := (limbs ys)) (by simp (decide := true) only [fetchP, evalP, ci, ofAV, ofCV, ofSV, putP, Tr.get_upd, if_true, if_false, h0, h1, h6, h7, h8, h9]) (rfl) ?_
  refine opsP_op (args := [(PA.int .i64 (.ofNat (j)))]) (v := (PA.int .i64 (.ofNat (j)))) (by simp (decide := true) only [fetchP, evalP, ci, ofAV, ofCV, ofSV, putP, Tr.get_upd, if_true, if_false, h0, h1, h6, h7, h8, h9]) (rfl) ?_
  refine opsP_op (args := [(limbs ys), (PA.int .i64 (.ofNat (j)))]) (v := (PA.v (.s (.rp [lim y])))) (by simp (decide := true) only [fetchP, evalP, ci, ofAV, ofCV, ofSV, putP, Tr.get_upd, if_true, if_false, h0, h1, h6, h7, h8, h9]) (isl_lst hy) ?_
  refine opsP_op (args := [(PA.v (.s (.rp [lim y])))]) (v := (PA.v (.s (lim (y))))) (by simp (decide := true) only [fetchP, evalP, ci, ofAV, ofCV, ofSV, putP, Tr.get_upd, if_true, if_false, h0, h1, h6, h7, h8, h9]) (rfl) ?_
  refine opsP_op (args := [(PA.v (.s (lim (y))))]) (v := (PA.int .u64 (.ofNat (y)))) (by simp (decide := true) only [fetchP, evalP, ci, ofAV, ofCV, ofSV, putP, Tr.get_upd, if_true, if_false, h0, h1, h6, h7, h8, h9]) (conv_u64 (by omega)) ?_
  refine opsP_op (args := [(PA.int .u64 (.ofNat (x))), (PA.int .u64 (.ofNat (y)))]) (v := (PA.int .u64 (.ofNat (x * y)))) (by simp (decide := true) only [fetchP, evalP, ci, ofAV, ofCV, ofSV, putP, Tr.get_upd, if_true, if_false, h0, h1, h6, h7, h8, h9]) (mul_u64 (by omega)) ?_
  refine opsP_op (args := [(PA.v (.s (.slice .h 0 L 1 (some L))))]) (v := (PA.v (.s (.slice .h 0 L 1 (some L))))) (by simp (decide := true) only [fetchP, evalP, ci, ofAV, ofCV, ofSV, putP, Tr.get_upd, if_true, if_false, h0, h1, h6, h7, h8, h9]) (rfl) ?_
  refine opsP_op (args := [(PA.int .i64 (.ofNat (i)))]) (v := (PA.int .i64 (.ofNat (i)))) (by simp (decide := true) only [fetchP, evalP, ci, ofAV, ofCV, ofSV, putP, Tr.get_upd, if_true, if_false, h0, h1, h6, h7, h8, h9]) (rfl) ?_
  refine opsP_op (args := [(PA.int .i64 (.ofNat (j)))]) (v := (PA.int .i64 (.ofNat (j)))) (by simp (decide := true) only [fetchP, evalP, ci, ofAV, ofCV, ofSV, putP, Tr.get_upd, if_true, if_false, h0, h1, h6, h7, h8, h9]) (rfl) ?_
  refine opsP_op (args := [(PA.int .i64 (.ofNat (i))), (PA.int .i64 (.ofNat (j)))]) (v := (PA.int .i64 (.ofNat (i + j)))) (by simp (decide := true) only [fetchP, evalP, ci, ofAV, ofCV, ofSV, putP, Tr.get_upd, if_true, if_false, h0, h1, h6, h7, h8, h9]) (add_i64 (by omega)) ?_
  refine opsP_op (args := [(PA.v (.s (.slice .h 0 L 1 (some L)))), (PA.int .i64 (.ofNat (i + j)))]) (v := (PA.v (.s (.ptr .h (i + j))))) (by simp (decide := true) only [fetchP, evalP, ci, ofAV, ofCV, ofSV, putP, Tr.get_upd, if_true, if_false, h0, h1, h6, h7, h8, h9]) (isl_sl (by omega)) ?_
  refine opsP_op (args := [(PA.v (.s (.ptr .h (i + j))))]) (v := (PA.v (.s (lim (z))))) (by simp (decide := true) only [fetchP, evalP, ci, ofAV, ofCV, ofSV, putP, Tr.get_upd, if_true, if_false, h0, h1, h6, h7, h8, h9]) (load_h hh hz) ?_
  refine opsP_op (args := [(PA.v (.s (lim (z))))]) (v := (PA.int .u64 (.ofNat (z)))) (by simp (decide := true) only [fetchP, evalP, ci, ofAV, ofCV, ofSV, putP, Tr.get_upd, if_true, if_false, h0, h1, h6, h7, h8, h9]) (conv_u64 (by omega)) ?_
  refine opsP_op (args := [(PA.int .u64 (.ofNat (x * y))), (PA.int .u64 (.ofNat (z)))]) (v := (PA.int .u64 (.ofNat (x * y + z)))) (by simp (decide := true) only [fetchP, evalP, ci, ofAV, ofCV, ofSV, putP, Tr.get_upd, if_true, if_false, h0, h1, h6, h7, h8, h9]) (add_u64 (by omega)) ?_
  refine opsP_op (args := [(PA.int .u64 (.ofNat (c))), (PA.int .u64 (.ofNat (x * y + z)))]) (v := (PA.int .u64 (.ofNat (c + (x * y + z))))) (by simp (decide := true) only [fetchP, evalP, ci, ofAV, ofCV, ofSV, putP, Tr.get_upd, if_true, if_false, h0, h1, h6, h7, h8, h9]) (add_u64 (by omega)) ?_
  refine opsP_op (args := [(PA.int .u64 (.ofNat (c + (x * y + z))))]) (v := (PA.int .u64 (.ofNat (c + (x * y + z))))) (by simp (decide := true) only [fetchP, evalP, ci, ofAV, ofCV, ofSV, putP, Tr.get_upd, if_true, if_false, h0, h1, h6, h7, h8, h9]) (rfl) ?_
  rfl
theorem r1_run {out : List Nat} {L i j c : Nat} {fr : PFr} {g : PHeap} {log : List (Nat × Nat)} (h6 : fr.get k6 = some (PA.v (.s (.slice .h 0 L 1 (some L))))) (h7 : fr.get k7 = some (PA.int .i64 (.ofNat (i)))) (h8 : fr.get k8 = some (PA.int .u64 (.ofNat (c)))) (h9 : fr.get k9 = some (PA.int .i64 (.ofNat (j)))) (hh : g.get .h = some ⟨.cells (out.map lim), true, false, [], log⟩) (hlt : i + j < out.length) (hL : out.length = L) (bl : L ≤ 9223372036854775807) (call : PCaller) :
    opsP call r1 fr g = some ((putP (putP (putP (putP (putP (putP (putP (putP fr (some k55) (PA.v (.s (.slice .h 0 L 1 (some L))))) (some k56) (PA.int .i64 (.ofNat (i)))) (some k57) (PA.int .i64 (.ofNat (j)))) (some k58) (PA.int .i64 (.ofNat (i + j)))) (some k59) (PA.int .u64 (.ofNat (c)))) (some k60) (PA.v (.s (lim (c % 4294967296))))) (some k61) (PA.v (.s (.ptr .h (i + j))))) none PA.unit), put0 g (out.set (i + j) (c % 4294967296)) ((i + j, 1) :: log)) := by
  refine opsP_op (args := [(PA.v (.s (.slice .h 0 L 1 (some L))))]) (v := (PA.v (.s (.slice .h 0 L 1 (some L))))) (by simp (decide := true) only [fetchP, evalP, ci, ofAV, ofCV, ofSV, putP, Tr.get_upd, if_true, if_false, h6, h7, h8, h9]) (rfl) ?_
  refine opsP_op (args := [(PA.int .i64 (.ofNat (i)))]) (v := (PA.int .i64 (.ofNat (i)))) (by simp (decide := true) only [fetchP, evalP, ci, ofAV, ofCV, ofSV, putP, Tr.get_upd, if_true, if_false, h6, h7, h8, h9]) (rfl) ?_
  refine opsP_op (args := [(PA.int .i64 (.ofNat (j)))]) (v := (PA.int .i64 (.ofNat (j)))) (by simp (decide := true) only [fetchP, evalP, ci, ofAV, ofCV, ofSV, putP, Tr.get_upd, if_true, if_false, h6, h7, h8, h9]) (rfl) ?_
  refine opsP_op (args := [(PA.int .i64 (.ofNat (i))), (PA.int .i64 (.ofNat (j)))]) (v := (PA.int .i64 (.ofNat (i + j)))) (by simp (decide := true) only [fetchP, evalP, ci, ofAV, ofCV, ofSV, putP, Tr.get_upd, if_true, if_false, h6, h7, h8, h9]) (add_i64 (by omega)) ?_
  refine opsP_op (args := [(PA.int .u64 (.ofNat (c)))]) (v := (PA.int .u64 (.ofNat (c)))) (by simp (decide := true) only [fetchP, evalP, ci, ofAV, ofCV, ofSV, putP, Tr.get_upd, if_true, if_false, h6, h7, h8, h9]) (rfl) ?_
  refine opsP_op (args := [(PA.int .u64 (.ofNat (c)))]) (v := (PA.v (.s (lim (c % 4294967296))))) (by simp (decide := true) only [fetchP, evalP, ci, ofAV, ofCV, ofSV, putP, Tr.get_upd, if_true, if_false, h6, h7, h8, h9]) (conv_u32 c) ?_
  refine opsP_op (args := [(PA.v (.s (.slice .h 0 L 1 (some L)))), (PA.int .i64 (.ofNat (i + j)))]) (v := (PA.v (.s (.ptr .h (i + j))))) (by simp (decide := true) only [fetchP, evalP, ci, ofAV, ofCV, ofSV, putP, Tr.get_upd, if_true, if_false, h6, h7, h8, h9]) (isl_sl (by omega)) ?_
  refine opsP_op (args := [(PA.v (.s (.ptr .h (i + j)))), (PA.v (.s (lim (c % 4294967296))))]) (v := PA.unit) (by simp (decide := true) only [fetchP, evalP, ci, ofAV, ofCV, ofSV, putP, Tr.get_upd, if_true, if_false, h6, h7, h8, h9]) (store_h hh hlt) ?_
  rfl
theorem r2_run {c : Nat} {fr : PFr} {g : PHeap} (h8 : fr.get k8 = some (PA.int .u64 (.ofNat (c)))) (call : PCaller) :
    opsP call r2 fr g = some ((putP (putP (putP fr (some k62) (PA.int .u64 (.ofNat (c)))) (some k63) (PA.int .u64 (.ofNat (c / 4294967296)))) (some k8) (PA.int .u64 (.ofNat (c / 4294967296)))), g) := by
  refine opsP_op (args := [(PA.int .u64 (.ofNat (c)))]) (v := (PA.int .u64 (.ofNat (c)))) (by simp (decide := true) only [fetchP, evalP, ci, ofAV, ofCV, ofSV, putP, Tr.get_upd, if_true, if_false, h8]) (rfl) ?_
  refine opsP_op (args := [(PA.int .u64 (.ofNat (c))), (PA.int .u64 (.ofNat 32))]) (v := (PA.int .u64 (.ofNat (c / 4294967296)))) (by simp (decide := true) only [fetchP, evalP, ci, ofAV, ofCV, ofSV, putP, Tr.get_upd, if_true, if_false, h8]) (shr_32) ?_
  refine opsP_op (args := [(PA.int .u64 (.ofNat (c / 4294967296)))]) (v := (PA.int .u64 (.ofNat (c / 4294967296)))) (by simp (decide := true) only [fetchP, evalP, ci, ofAV, ofCV, ofSV, putP, Tr.get_upd, if_true, if_false, h8]) (rfl) ?_
  rfl
theorem r0_run {j : Nat} {fr : PFr} {g : PHeap} (h31 : fr.get k31 = some (PA.int .i64 (.ofNat (j)))) (call : PCaller) :
    opsP call [m k33 k31, m k9 k33] fr g = some ((putP (putP fr (some k33) (PA.int .i64 (.ofNat (j)))) (some k9) (PA.int .i64 (.ofNat (j)))), g) := by
  refine opsP_op (args := [(PA.int .i64 (.ofNat (j)))]) (v := (PA.int .i64 (.ofNat (j)))) (by simp (decide := true) only [fetchP, evalP, ci, ofAV, ofCV, ofSV, putP, Tr.get_upd, if_true, if_false, h31]) (rfl) ?_
  refine opsP_op (args := [(PA.int .i64 (.ofNat (j)))]) (v := (PA.int .i64 (.ofNat (j)))) (by simp (decide := true) only [fetchP, evalP, ci, ofAV, ofCV, ofSV, putP, Tr.get_upd, if_true, if_false, h31]) (rfl) ?_
  rfl
theorem r3_run {j : Nat} {fr : PFr} {g : PHeap} (h31 : fr.get k31 = some (PA.int .i64 (.ofNat (j)))) (bj : j < 9223372036854775807) (call : PCaller) :
    opsP call [bi k64 .add (.t k31) (ci 1), m k31 k64] fr g = some ((putP (putP fr (some k64) (PA.int .i64 (.ofNat (j + 1)))) (some k31) (PA.int .i64 (.ofNat (j + 1)))), g) := by
  refine opsP_op (args := [(PA.int .i64 (.ofNat (j))), (PA.int .i64 (.ofNat (1)))]) (v := (PA.int .i64 (.ofNat (j + 1)))) (by simp (decide := true) only [fetchP, evalP, ci, ofAV, ofCV, ofSV, putP, Tr.get_upd, if_true, if_false, h31]) (add_i64 (by omega)) ?_
  refine opsP_op (args := [(PA.int .i64 (.ofNat (j + 1)))]) (v := (PA.int .i64 (.ofNat (j + 1)))) (by simp (decide := true) only [fetchP, evalP, ci, ofAV, ofCV, ofSV, putP, Tr.get_upd, if_true, if_false, h31]) (rfl) ?_
  rfl
theorem t2_run {ys : List Nat} {j : Nat} {fr : PFr} {g : PHeap} (h30 : fr.get k30 = some (PA.int .i64 (.ofNat (ys.length)))) (h31 : fr.get k31 = some (PA.int .i64 (.ofNat (j)))) (call : PCaller) :
    opsP call [bi k32 .lss (.t k31) (.t k30)] fr g = some ((putP fr (some k32) (PA.bool (decide (j < ys.length)))), g) := by
  refine opsP_op (args := [(PA.int .i64 (.ofNat (j))), (PA.int .i64 (.ofNat (ys.length)))]) (v := (PA.bool (decide (j < ys.length)))) (by simp (decide := true) only [fetchP, evalP, ci, ofAV, ofCV, ofSV, putP, Tr.get_upd, if_true, if_false, h30, h31]) (lss_i64) ?_
  rfl
theorem t1_run {xs : List Nat} {i : Nat} {fr : PFr} {g : PHeap} (h25 : fr.get k25 = some (PA.int .i64 (.ofNat (xs.length)))) (h26 : fr.get k26 = some (PA.int .i64 (.ofNat (i)))) (call : PCaller) :
    opsP call [bi k27 .lss (.t k26) (.t k25)] fr g = some ((putP fr (some k27) (PA.bool (decide (i < xs.length)))), g) := by
  refine opsP_op (args := [(PA.int .i64 (.ofNat (i))), (PA.int .i64 (.ofNat (xs.length)))]) (v := (PA.bool (decide (i < xs.length)))) (by simp (decide := true) only [fetchP, evalP, ci, ofAV, ofCV, ofSV, putP, Tr.get_upd, if_true, if_false, h25, h26]) (lss_i64) ?_
  rfl
theorem s0_run {i : Nat} {fr : PFr} {g : PHeap} (h26 : fr.get k26 = some (PA.int .i64 (.ofNat (i)))) (call : PCaller) :
    opsP call [m k28 k26,m k7 k28] fr g = some ((putP (putP fr (some k28) (PA.int .i64 (.ofNat (i)))) (some k7) (PA.int .i64 (.ofNat (i)))), g) := by
  refine opsP_op (args := [(PA.int .i64 (.ofNat (i)))]) (v := (PA.int .i64 (.ofNat (i)))) (by simp (decide := true) only [fetchP, evalP, ci, ofAV, ofCV, ofSV, putP, Tr.get_upd, if_true, if_false, h26]) (rfl) ?_
  refine opsP_op (args := [(PA.int .i64 (.ofNat (i)))]) (v := (PA.int .i64 (.ofNat (i)))) (by simp (decide := true) only [fetchP, evalP, ci, ofAV, ofCV, ofSV, putP, Tr.get_upd, if_true, if_false, h26]) (rfl) ?_
  rfl
theorem s1_run {fr : PFr} {g : PHeap}  (call : PCaller) :
    opsP call [mc k8 (.c (.v (.s (.int .u64 (.ofNat 0)))))] fr g = some ((putP fr (some k8) (PA.int .u64 (.ofNat (0)))), g) := by
  refine opsP_op (args := [(PA.int .u64 (.ofNat (0)))]) (v := (PA.int .u64 (.ofNat (0)))) (by rfl) (rfl) ?_
  rfl
theorem s2_run {ys : List Nat} {fr : PFr} {g : PHeap} (h1 : fr.get k1 = some (limbs ys)) (call : PCaller) :
    opsP call [m k29 k1,a k30 (.lens) k29,mc k31 (ci 0)] fr g = some ((putP (putP (putP fr (some k29) (limbs ys)) (some k30) (PA.int .i64 (.ofNat (ys.length)))) (some k31) (PA.int .i64 (.ofNat (0)))), g) := by
  refine opsP_op (args := [(limbs ys)]) (v := (limbs ys)) (by simp (decide := true) only [fetchP, evalP, ci, ofAV, ofCV, ofSV, putP, Tr.get_upd, if_true, if_false, h1]) (rfl) ?_
  refine opsP_op (args := [(limbs ys)]) (v := (PA.int .i64 (.ofNat (ys.length)))) (by simp (decide := true) only [fetchP, evalP, ci, ofAV, ofCV, ofSV, putP, Tr.get_upd, if_true, if_false, h1]) (lens_lst) ?_
  refine opsP_op (args := [(PA.int .i64 (.ofNat (0)))]) (v := (PA.int .i64 (.ofNat (0)))) (by simp (decide := true) only [fetchP, evalP, ci, ofAV, ofCV, ofSV, putP, Tr.get_upd, if_true, if_false, h1]) (rfl) ?_
  rfl
theorem s3_run {ys out : List Nat} {L i c : Nat} {fr : PFr} {g : PHeap} {log : List (Nat × Nat)} (h1 : fr.get k1 = some (limbs ys)) (h6 : fr.get k6 = some (PA.v (.s (.slice .h 0 L 1 (some L))))) (h7 : fr.get k7 = some (PA.int .i64 (.ofNat (i)))) (h8 : fr.get k8 = some (PA.int .u64 (.ofNat (c)))) (hh : g.get .h = some ⟨.cells (out.map lim), true, false, [], log⟩) (hlt : i + ys.length < out.length) (hL : out.length = L) (bl : L ≤ 9223372036854775807) (call : PCaller) :
    opsP call s3 fr g = some ((putP (putP (putP (putP (putP (putP (putP (putP (putP fr (some k65) (PA.v (.s (.slice .h 0 L 1 (some L))))) (some k66) (PA.int .i64 (.ofNat (i)))) (some k67) (limbs ys)) (some k68) (PA.int .i64 (.ofNat (ys.length)))) (some k69) (PA.int .i64 (.ofNat (i + ys.length)))) (some k70) (PA.int .u64 (.ofNat (c)))) (some k71) (PA.v (.s (lim (c % 4294967296))))) (some k72) (PA.v (.s (.ptr .h (i + ys.length))))) none PA.unit), put0 g (out.set (i + ys.length) (c % 4294967296)) ((i + ys.length, 1) :: log)) := by
  refine opsP_op (args := [(PA.v (.s (.slice .h 0 L 1 (some L))))]) (v := (PA.v (.s (.slice .h 0 L 1 (some L))))) (by simp (decide := true) only [fetchP, evalP, ci, ofAV, ofCV, ofSV, putP, Tr.get_upd, if_true, if_false, h1, h6, h7, h8]) (rfl) ?_
  refine opsP_op (args := [(PA.int .i64 (.ofNat (i)))]) (v := (PA.int .i64 (.ofNat (i)))) (by simp (decide := true) only [fetchP, evalP, ci, ofAV, ofCV, ofSV, putP, Tr.get_upd, if_true, if_false, h1, h6, h7, h8]) (rfl) ?_
  refine opsP_op (args := [(limbs ys)]) (v := (limbs ys)) (by simp (decide := true) only [fetchP, evalP, ci, ofAV, ofCV, ofSV, putP, Tr.get_upd, if_true, if_false, h1, h6, h7, h8]) (rfl) ?_
  refine opsP_op (args := [(limbs ys)]) (v := (PA.int .i64 (.ofNat (ys.length)))) (by simp (decide := true) only [fetchP, evalP, ci, ofAV, ofCV, ofSV, putP, Tr.get_upd, if_true, if_false, h1, h6, h7, h8]) (lens_lst) ?_
  refine opsP_op (args := [(PA.int .i64 (.ofNat (i))), (PA.int .i64 (.ofNat (ys.length)))]) (v := (PA.int .i64 (.ofNat (i + ys.length)))) (by simp (decide := true) only [fetchP, evalP, ci, ofAV, ofCV, ofSV, putP, Tr.get_upd, if_true, if_false, h1, h6, h7, h8]) (add_i64 (by omega)) ?_
  refine opsP_op (args := [(PA.int .u64 (.ofNat (c)))]) (v := (PA.int .u64 (.ofNat (c)))) (by simp (decide := true) only [fetchP, evalP, ci, ofAV, ofCV, ofSV, putP, Tr.get_upd, if_true, if_false, h1, h6, h7, h8]) (rfl) ?_
  refine opsP_op (args := [(PA.int .u64 (.ofNat (c)))]) (v := (PA.v (.s (lim (c % 4294967296))))) (by simp (decide := true) only [fetchP, evalP, ci, ofAV, ofCV, ofSV, putP, Tr.get_upd, if_true, if_false, h1, h6, h7, h8]) (conv_u32 c) ?_
  refine opsP_op (args := [(PA.v (.s (.slice .h 0 L 1 (some L)))), (PA.int .i64 (.ofNat (i + ys.length)))]) (v := (PA.v (.s (.ptr .h (i + ys.length))))) (by simp (decide := true) only [fetchP, evalP, ci, ofAV, ofCV, ofSV, putP, Tr.get_upd, if_true, if_false, h1, h6, h7, h8]) (isl_sl (by omega)) ?_
  refine opsP_op (args := [(PA.v (.s (.ptr .h (i + ys.length)))), (PA.v (.s (lim (c % 4294967296))))]) (v := PA.unit) (by simp (decide := true) only [fetchP, evalP, ci, ofAV, ofCV, ofSV, putP, Tr.get_upd, if_true, if_false, h1, h6, h7, h8]) (store_h hh hlt) ?_
  rfl
theorem s4_run {i : Nat} {fr : PFr} {g : PHeap} (h26 : fr.get k26 = some (PA.int .i64 (.ofNat (i)))) (bnd : i < 9223372036854775807) (call : PCaller) :
    opsP call [bi k73 .add (.t k26) (ci 1),m k26 k73] fr g = some ((putP (putP fr (some k73) (PA.int .i64 (.ofNat (i + 1)))) (some k26) (PA.int .i64 (.ofNat (i + 1)))), g) := by
  refine opsP_op (args := [(PA.int .i64 (.ofNat (i))), (PA.int .i64 (.ofNat (1)))]) (v := (PA.int .i64 (.ofNat (i + 1)))) (by simp (decide := true) only [fetchP, evalP, ci, ofAV, ofCV, ofSV, putP, Tr.get_upd, if_true, if_false, h26]) (add_i64 (by omega)) ?_
  refine opsP_op (args := [(PA.int .i64 (.ofNat (i + 1)))]) (v := (PA.int .i64 (.ofNat (i + 1)))) (by simp (decide := true) only [fetchP, evalP, ci, ofAV, ofCV, ofSV, putP, Tr.get_upd, if_true, if_false, h26]) (rfl) ?_
  rfl
def inner : VCode := .seq (.region [bi k32 .lss (.t k31) (.t k30)]) (.seq (.cond (.t k32) (.skip) (.exit 2)) (.seq (.block 3 (.seq (.region [m k33 k31,m k9 k33]) (.seq (.drawn d1) (.seq (.region r1) (.region r2))))) (.region [bi k64 .add (.t k31) (ci 1),m k31 k64])))
def HCells (out : List Nat) (g : PHeap) : Prop := ∃ log, g.get .h = some ⟨.cells (out.map lim), true, false, [], log⟩
theorem inner_round {xs ys out : List Nat} {L i j c x y z : Nat} {fr : PFr} {g : PHeap} (s : St xs ys L i fr) (t : Si ys c j fr) (hh : HCells out g) (hj : j < ys.length)
    (hx : xs[i]? = some x) (hy : ys[j]? = some y) (hz : out[i + j]? = some z) (hL : out.length = L) (bx : x < 4294967296) (by' : y < 4294967296) (bz : z < 4294967296) (bc : c < 4294967296) (bl : L ≤ 9223372036854775807) :
    ∃ fr' g', Ev F K inner fr g .normal fr' g' ∧ St xs ys L i fr' ∧ Si ys ((c + (x * y + z)) / 4294967296) (j + 1) fr' ∧ HCells (out.set (i + j) ((c + (x * y + z)) % 4294967296)) g' := by
  obtain ⟨log, hh⟩ := hh
  have hlt := (List.getElem?_eq_some_iff.1 hz).1
  have hxy : x * y ≤ 18446744065119617025 := by
    have : x * y ≤ 4294967295 * 4294967295 := Nat.mul_le_mul (by omega) (by omega)
    omega
  obtain ⟨sa, sb, so, si, sp, sq⟩ := s
  obtain ⟨tc, tj, tn⟩ := t
  refine ⟨_, _, Ev.seq (Ev.region (t2_run tn tj)) (Ev.seq (Ev.cond_t ?_ Ev.skip) (Ev.seq (Ev.block 3 (Ev.seq (Ev.region (r0_run (j := j) ?_)) (Ev.seq (Ev.drawn rfl (d1_run (c := c) ?_ ?_ ?_ ?_ ?_ ?_ hh hx hy hz hL bx by' bz bc bl hxy))
    (Ev.seq (Ev.region (r1_run (c := c + (x * y + z)) (i := i) (j := j) (L := L) ?_ ?_ ?_ ?_ hh hlt hL bl)) (Ev.region (r2_run (c := c + (x * y + z)) ?_)))))) (Ev.region (r3_run (j := j) ?_ (by omega))))), ?_, ?_, ⟨_, put0_get _ _ _⟩⟩
  · simp (decide := true) only [evalP, putP, Tr.get_upd, if_true, if_false]; simp [hj]
  · (simp (decide := true) only [putP, Tr.get_upd, if_true, if_false] at sa sb so si sp sq tc tj tn ⊢; try (first | assumption | rfl))
  · (simp (decide := true) only [putP, Tr.get_upd, if_true, if_false] at sa sb so si sp sq tc tj tn ⊢; try (first | assumption | rfl))
  · (simp (decide := true) only [putP, Tr.get_upd, if_true, if_false] at sa sb so si sp sq tc tj tn ⊢; try (first | assumption | rfl))
  · (simp (decide := true) only [putP, Tr.get_upd, if_true, if_false] at sa sb so si sp sq tc tj tn ⊢; try (first | assumption | rfl))
  · (simp (decide := true) only [putP, Tr.get_upd, if_true, if_false] at sa sb so si sp sq tc tj tn ⊢; try (first | assumption | rfl))
  · (simp (decide := true) only [putP, Tr.get_upd, if_true, if_false] at sa sb so si sp sq tc tj tn ⊢; try (first | assumption | rfl))
  · (simp (decide := true) only [putP, Tr.get_upd, if_true, if_false] at sa sb so si sp sq tc tj tn ⊢; try (first | assumption | rfl))
  · (simp (decide := true) only [putP, Tr.get_upd, if_true, if_false] at sa sb so si sp sq tc tj tn ⊢; try (first | assumption | rfl))
  · (simp (decide := true) only [putP, Tr.get_upd, if_true, if_false] at sa sb so si sp sq tc tj tn ⊢; try (first | assumption | rfl))
  · (simp (decide := true) only [putP, Tr.get_upd, if_true, if_false] at sa sb so si sp sq tc tj tn ⊢; try (first | assumption | rfl))
  · (simp (decide := true) only [putP, Tr.get_upd, if_true, if_false] at sa sb so si sp sq tc tj tn ⊢; try (first | assumption | rfl))
  · (simp (decide := true) only [putP, Tr.get_upd, if_true, if_false] at sa sb so si sp sq tc tj tn ⊢; try (first | assumption | rfl))
  · (simp (decide := true) only [putP, Tr.get_upd, if_true, if_false] at sa sb so si sp sq tc tj tn ⊢; try (first | assumption | rfl))
  · constructor <;> (simp (decide := true) only [putP, Tr.get_upd, if_true, if_false] at sa sb so si sp sq tc tj tn ⊢; try (first | assumption | rfl))
  · constructor <;> (simp (decide := true) only [putP, Tr.get_upd, if_true, if_false] at sa sb so si sp sq tc tj tn ⊢; try (first | assumption | rfl))
theorem inner_last {xs ys : List Nat} {L i c : Nat} {fr : PFr} {g : PHeap} (s : St xs ys L i fr) (t : Si ys c ys.length fr) : ∃ fr', Ev F K inner fr g (.exit 2) fr' g ∧ St xs ys L i fr' ∧ Si ys c ys.length fr' := by
  obtain ⟨sa, sb, so, si, sp, sq⟩ := s
  obtain ⟨tc, tj, tn⟩ := t
  refine ⟨_, Ev.seq (Ev.region (t2_run tn tj)) (Ev.seq_stop (Ev.cond_f ?_ (Ev.exit 2)) (by simp)), ?_, ?_⟩
  · simp (decide := true) only [evalP, putP, Tr.get_upd, if_true, if_false]; simp
  · constructor <;> (simp (decide := true) only [putP, Tr.get_upd, if_true, if_false] at sa sb so si sp sq tc tj tn ⊢; try (first | assumption | rfl))
  · constructor <;> (simp (decide := true) only [putP, Tr.get_upd, if_true, if_false] at sa sb so si sp sq tc tj tn ⊢; try (first | assumption | rfl))
theorem inner_all {xs ys out : List Nat} {L i : Nat} {fr : PFr} {g : PHeap} (s : St xs ys L i fr) (t : Si ys 0 0 fr) (hh : HCells out g) (hi : i < xs.length) (hL : out.length = L) (hlen : i + ys.length ≤ L) (hx : Lim xs) (hy : Lim ys) (ho : Lim out) (bl : L ≤ 9223372036854775807) :
    ∃ fr' g', Ev F K (.block 2 (.loop inner)) fr g .normal fr' g' ∧ St xs ys L i fr' ∧ Si ys (stepIn (xs.getD i 0) i ys ys.length (out, 0)).2 ys.length fr' ∧ HCells (stepIn (xs.getD i 0) i ys ys.length (out, 0)).1 g' := by
  have := Ev.loop_up (F := F) (K := K) (a := inner) (x := .exit 2) (n := ys.length) (by simp)
    (I := fun j fr g => St xs ys L i fr ∧ Si ys (stepIn (xs.getD i 0) i ys j (out, 0)).2 j fr ∧ HCells (stepIn (xs.getD i 0) i ys j (out, 0)).1 g)
    (Q := fun fr g => St xs ys L i fr ∧ Si ys (stepIn (xs.getD i 0) i ys ys.length (out, 0)).2 ys.length fr ∧ HCells (stepIn (xs.getD i 0) i ys ys.length (out, 0)).1 g)
    (fun j fr g hj h => by
      obtain ⟨h1, h2, h3⟩ := h
      obtain ⟨a1, a2, a3⟩ := stepIn_ok (i := i) (hx.getD i) hy j (p := (out, 0)) ho (by show 0 < 4294967296; decide)
      simp only at a3
      obtain ⟨fr', g', e1, e2, e3, e4⟩ := inner_round (F := F) (K := K) h1 h2 h3 hj (getD_some hi) (getD_some hj) (getD_some (l := (stepIn (xs.getD i 0) i ys j (out, 0)).1) (i := i + j) (by rw [a3]; omega)) (by rw [a3, hL]) (hx.getD i) (hy.getD j) (a1.getD (i + j)) a2 bl
      exact ⟨fr', g', e1, e2, e3, e4⟩)
    (fun fr g h => by
      obtain ⟨h1, h2, h3⟩ := h
      obtain ⟨fr', e1, e2, e3⟩ := inner_last (F := F) (K := K) (g := g) h1 h2
      exact ⟨fr', g, e1, e2, e3, h3⟩) ys.length 0 (by omega) fr g ⟨s, t, hh⟩
  obtain ⟨fr', g', e1, e2, e3, e4⟩ := this
  exact ⟨fr', g', Ev.block_exit 2 e1, e2, e3, e4⟩
def outer : VCode := .seq (.region [bi k27 .lss (.t k26) (.t k25)]) (.seq (.cond (.t k27) (.skip) (.exit 0)) (.seq (.block 1 (.seq (.region [m k28 k26,m k7 k28]) (.seq (.region [mc k8 (.c (.v (.s (.int .u64 (.ofNat 0)))))]) (.seq (.seq (.region [m k29 k1,a k30 (.lens) k29,mc k31 (ci 0)]) (.block 2 (.loop inner))) (.region s3))))) (.region [bi k73 .add (.t k26) (ci 1),m k26 k73])))
theorem outer_round {xs ys out : List Nat} {L i : Nat} {fr : PFr} {g : PHeap} (s : So xs ys L i fr) (hh : HCells out g) (hi : i < xs.length) (hL : out.length = L) (hlen : xs.length + ys.length ≤ L) (hx : Lim xs) (hy : Lim ys) (ho : Lim out) (bl : L ≤ 9223372036854775807) :
    ∃ fr' g', Ev F K outer fr g .normal fr' g' ∧ So xs ys L (i + 1) fr' ∧ HCells ((stepIn (xs.getD i 0) i ys ys.length (out, 0)).1.set (i + ys.length) ((stepIn (xs.getD i 0) i ys ys.length (out, 0)).2 % 4294967296)) g' := by
  obtain ⟨sa, sb, so, sp, sq⟩ := s
  have pre : ∃ fr1, Ev F K (.region [bi k27 .lss (.t k26) (.t k25)]) fr g .normal fr1 g ∧ evalP fr1 (.t k27) = some (.v (.s (.bool true))) ∧ So xs ys L i fr1 := by
    refine ⟨_, Ev.region (t1_run sp sq), ?_, ?_⟩
    · simp (decide := true) only [evalP, putP, Tr.get_upd, if_true, if_false]; simp [hi]
    · constructor <;> (simp (decide := true) only [putP, Tr.get_upd, if_true, if_false] at sa sb so sp sq ⊢; try (first | assumption | rfl))
  obtain ⟨fr1, p1, p2, ⟨sa, sb, so, sp, sq⟩⟩ := pre
  have pre2 : ∃ fr2, Ev F K (.region [m k28 k26,m k7 k28]) fr1 g .normal fr2 g ∧ St xs ys L i fr2 := by
    refine ⟨_, Ev.region (s0_run sq), ?_⟩
    constructor <;> (simp (decide := true) only [putP, Tr.get_upd, if_true, if_false] at sa sb so sp sq ⊢; try (first | assumption | rfl))
  obtain ⟨fr2, q1, ⟨sa, sb, so, si, sp, sq⟩⟩ := pre2
  have pre3 : ∃ fr3, Ev F K (.region [mc k8 (.c (.v (.s (.int .u64 (.ofNat 0)))))]) fr2 g .normal fr3 g ∧ St xs ys L i fr3 ∧ fr3.get k8 = some (.int .u64 (.ofNat 0)) := by
    refine ⟨_, Ev.region s1_run, ?_, ?_⟩
    · constructor <;> (simp (decide := true) only [putP, Tr.get_upd, if_true, if_false] at sa sb so si sp sq ⊢; try (first | assumption | rfl))
    · (simp (decide := true) only [putP, Tr.get_upd, if_true, if_false] at sa sb so si sp sq ⊢; try (first | assumption | rfl))
  obtain ⟨fr3, q2, ⟨sa, sb, so, si, sp, sq⟩, tc⟩ := pre3
  have pre4 : ∃ fr4, Ev F K (.region [m k29 k1,a k30 (.lens) k29,mc k31 (ci 0)]) fr3 g .normal fr4 g ∧ St xs ys L i fr4 ∧ Si ys 0 0 fr4 := by
    refine ⟨_, Ev.region (s2_run sb), ?_, ?_⟩
    · constructor <;> (simp (decide := true) only [putP, Tr.get_upd, if_true, if_false] at sa sb so si sp sq tc ⊢; try (first | assumption | rfl))
    · constructor <;> (simp (decide := true) only [putP, Tr.get_upd, if_true, if_false] at sa sb so si sp sq tc ⊢; try (first | assumption | rfl))
  obtain ⟨fr4, q3, s4, t4⟩ := pre4
  obtain ⟨fr5, g5, q4, s5, t5, hh5⟩ := inner_all (F := F) (K := K) s4 t4 hh hi hL (by omega) hx hy ho bl
  obtain ⟨a1, a2, a3⟩ := stepIn_ok (i := i) (hx.getD i) hy ys.length (p := (out, 0)) ho (by show 0 < 4294967296; decide)
  simp only at a3
  obtain ⟨log, hh5⟩ := hh5
  obtain ⟨sa, sb, so, si, sp, sq⟩ := s5
  obtain ⟨tc, tj, tn⟩ := t5
  have pre6 : ∃ fr6, Ev F K (.region s3) fr5 g5 .normal fr6 (put0 g5 ((stepIn (xs.getD i 0) i ys ys.length (out, 0)).1.set (i + ys.length) ((stepIn (xs.getD i 0) i ys ys.length (out, 0)).2 % 4294967296)) ((i + ys.length, 1) :: log)) ∧ St xs ys L i fr6 := by
    refine ⟨_, Ev.region (s3_run sb so si tc hh5 (by rw [a3]; omega) (by rw [a3, hL]) bl), ?_⟩
    constructor <;> (simp (decide := true) only [putP, Tr.get_upd, if_true, if_false] at sa sb so si sp sq tc ⊢; try (first | assumption | rfl))
  obtain ⟨fr6, q5, ⟨sa, sb, so, si, sp, sq⟩⟩ := pre6
  have pre7 : ∃ fr7, Ev F K (.region [bi k73 .add (.t k26) (ci 1),m k26 k73]) fr6 (put0 g5 ((stepIn (xs.getD i 0) i ys ys.length (out, 0)).1.set (i + ys.length) ((stepIn (xs.getD i 0) i ys ys.length (out, 0)).2 % 4294967296)) ((i + ys.length, 1) :: log)) .normal fr7 (put0 g5 ((stepIn (xs.getD i 0) i ys ys.length (out, 0)).1.set (i + ys.length) ((stepIn (xs.getD i 0) i ys ys.length (out, 0)).2 % 4294967296)) ((i + ys.length, 1) :: log)) ∧ So xs ys L (i + 1) fr7 := by
    refine ⟨_, Ev.region (s4_run sq (by omega)), ?_⟩
    constructor <;> (simp (decide := true) only [putP, Tr.get_upd, if_true, if_false] at sa sb so si sp sq ⊢; try (first | assumption | rfl))
  obtain ⟨fr7, q6, s7⟩ := pre7
  exact ⟨fr7, _, Ev.seq p1 (Ev.seq (Ev.cond_t p2 Ev.skip) (Ev.seq (Ev.block 1 (Ev.seq q1 (Ev.seq q2 (Ev.seq (Ev.seq q3 q4) q5)))) q6)), s7, ⟨_, put0_get _ _ _⟩⟩
end Go.Pv.M
end
section
namespace Go.Pv.M
open Go.Vm Go.Vm.C
open Go.Vm.Key (kn)
variable {F : Funcs} {K : Known}
theorem outer_last {xs ys : List Nat} {L : Nat} {fr : PFr} {g : PHeap} (s : So xs ys L xs.length fr) : ∃ fr', Ev F K outer fr g (.exit 0) fr' g ∧ So xs ys L xs.length fr' := by
  obtain ⟨sa, sb, so, sp, sq⟩ := s
  refine ⟨_, Ev.seq (Ev.region (t1_run sp sq)) (Ev.seq_stop (Ev.cond_f ?_ (Ev.exit 0)) (by simp)), ?_⟩
  · simp only [evalP, putP, Tr.get_upd, if_true]; simp
  · constructor <;> (simp (decide := true) only [putP, Tr.get_upd, if_true, if_false] at sa sb so sp sq ⊢; try (first | assumption | rfl))
theorem outer_all {xs ys out : List Nat} {L : Nat} {fr : PFr} {g : PHeap} (s : So xs ys L 0 fr) (hh : HCells out g) (hL : out.length = L) (hlen : xs.length + ys.length ≤ L) (hx : Lim xs) (hy : Lim ys) (ho : Lim out) (bl : L ≤ 9223372036854775807) :
    ∃ fr' g', Ev F K (.block 0 (.loop outer)) fr g .normal fr' g' ∧ So xs ys L xs.length fr' ∧ HCells (rows xs ys xs.length out) g' := by
  have := Ev.loop_up (F := F) (K := K) (a := outer) (x := .exit 0) (n := xs.length) (by simp)
    (I := fun i fr g => So xs ys L i fr ∧ HCells (rows xs ys i out) g)
    (Q := fun fr g => So xs ys L xs.length fr ∧ HCells (rows xs ys xs.length out) g)
    (fun i fr g hi h => by
      obtain ⟨h1, h2⟩ := h
      obtain ⟨a1, a2⟩ := rows_ok hx hy i ho
      obtain ⟨fr', g', e1, e2, e3⟩ := outer_round (F := F) (K := K) h1 h2 hi (by rw [a2, hL]) hlen hx hy a1 bl
      exact ⟨fr', g', e1, e2, e3⟩)
    (fun fr g h => by
      obtain ⟨h1, h2⟩ := h
      obtain ⟨fr', e1, e2⟩ := outer_last (F := F) (K := K) (g := g) h1
      exact ⟨fr', g, e1, e2, h2⟩) xs.length 0 (by omega) fr g ⟨s, hh⟩
  obtain ⟨fr', g', e1, e2, e3⟩ := this
  exact ⟨fr', g', Ev.block_exit 0 e1, e2, e3⟩
theorem Ev.region_call {n : Nat} {ops : List VOper} {fr fr' : PFr} {g g' : PHeap} (h : opsP (callP F K (execP F K n)) ops fr g = some (fr', g')) : Ev F K (.region ops) fr g .normal fr' g' := ⟨n + 1, by rw [exP_region, h]⟩
theorem opsP_call {call : PCaller} {d : Option Key} {f : Nat} {xs : List VX} {l : List VOper} {args : List PA} {v : PA} {fr fr'' : PFr} {g g' g'' : PHeap} (h1 : fetchP fr xs = some args) (h2 : call f args g = some (v, g')) (h3 : opsP call l (putP fr d v) g' = some (fr'', g'')) :
    opsP call (⟨d, .call f, xs, none⟩ :: l) fr g = some (fr'', g'') := by
  simp only [opsP, operP, wantedP, h1, actP, h2, h3]
theorem opsP_gop {call : PCaller} {d : Option Key} {o : VOp} {xs : List VX} {l : List VOper} {args : List PA} {v : PA} {k : Key} {b : Bool} {fr fr'' : PFr} {g g' g'' : PHeap} (h0 : fr.get k = some (.v (.s (.bool b)))) (h1 : fetchP fr xs = some args) (h2 : opP o args g = some (v, g')) (h3 : opsP call l (putP fr d v) g' = some (fr'', g'')) :
    opsP call (⟨d, .op o, xs, some (k, b)⟩ :: l) fr g = some (fr'', g'') := by
  simp only [opsP, operP, wantedP, h0, beq_self_eq_true, h1, actP, h2, h3]
theorem opsP_gcall {call : PCaller} {d : Option Key} {f : Nat} {xs : List VX} {l : List VOper} {args : List PA} {v : PA} {k : Key} {b : Bool} {fr fr'' : PFr} {g g' g'' : PHeap} (h0 : fr.get k = some (.v (.s (.bool b)))) (h1 : fetchP fr xs = some args) (h2 : call f args g = some (v, g')) (h3 : opsP call l (putP fr d v) g' = some (fr'', g'')) :
    opsP call (⟨d, .call f, xs, some (k, b)⟩ :: l) fr g = some (fr'', g'') := by
  simp only [opsP, operP, wantedP, h0, beq_self_eq_true, h1, actP, h2, h3]
theorem frz_lims (n : Nat) : ∀ (out : List Nat) (h : PHeap), frzV.frzVs (frzV (n + 1)) (out.map lim) h = some (out.map lim, h)
  | [], h => rfl
  | x :: out, h => by
    have h1 : frzV (n + 1) (lim x) h = some (lim x, h) := rfl
    simp only [List.map_cons, frzV.frzVs, h1, frz_lims n out h]
theorem chunk_one : ∀ (out : List Nat), chunk 1 out.length (out.map lim) = out.map fun n => [lim n]
  | [] => rfl
  | x :: out => by simp [chunk, chunk_one out]
theorem frz_lst (xs : List Nat) (h : PHeap) : frzAs deep [limbs xs] h = some ([limbs xs], h) := rfl
theorem frz_out {out : List Nat} {L : Nat} {g : PHeap} (hh : HCells out g) (hL : out.length = L) (h0 : L ≠ 0) : ∃ g', frzAs deep [.v (.s (.slice .h 0 L 1 (some L)))] g = some ([limbs out], g') := by
  obtain ⟨log, hh⟩ := hh
  subst hL
  refine ⟨g.upd .h (some ⟨.cells (out.map lim), true, true, [], log⟩), ?_⟩
  have e : frzV deep (.slice .h 0 out.length 1 (some out.length)) g = some (.lst 1 (out.map fun n => [lim n]) none, g.upd .h (some ⟨.cells (out.map lim), true, true, [], log⟩)) := by
    show (if capFits out.length (some out.length) = false then none else if out.length * 1 = 0 then _ else _) = _
    have hc : capFits out.length (some out.length) = true := by simp [capFits]
    rw [if_neg (by rw [hc]; simp), if_neg (by omega), hh]
    simp only [List.length_map]
    rw [if_pos (by omega)]
    have : ((out.map lim).drop 0).take (out.length * 1) = out.map lim := by
      rw [List.drop_zero, Nat.mul_one]; exact List.take_of_length_le (by simp)
    rw [this]
    simp only [Bool.false_eq_true, if_false, frz_lims 38 out, chunk_one]
  simp only [frzAs, frzA, frzC, e, limbs]
theorem head_run {call : PCaller} {xs ys : List Nat} {fr : PFr} {g : PHeap} (h0 : fr.get k0 = some (limbs xs)) (h1 : fr.get k1 = some (limbs ys)) (hx : ∀ g, call 39 [limbs xs] g = some (PA.bool true, g)) (hy : ∀ g, call 39 [limbs ys] g = some (PA.bool true, g)) :
    opsP call [m k10 k0,c k11 39 [(.t k10)],a k12 (.un .not) k11,m k13 k12,⟨(some k14),.op (.mov),[(.t k1)],(some (k13,false))⟩,⟨(some k15),.call 39,[(.t k14)],(some (k13,false))⟩,⟨(some k16),.op (.un .not),[(.t k15)],(some (k13,false))⟩,o k17 (.pick) [(.t k13),ct,(.t k16)]] fr g =
      some ((putP (putP (putP (putP (putP (putP (putP (putP fr (some k10) (limbs xs)) (some k11) (PA.bool true)) (some k12) (PA.bool false)) (some k13) (PA.bool false)) (some k14) (limbs ys)) (some k15) (PA.bool true)) (some k16) (PA.bool false)) (some k17) (PA.bool false)), g) := by
  refine opsP_op (args := [limbs xs]) (v := limbs xs) (by simp (decide := true) only [fetchP, evalP, ct, cf, cs, ci, ofAV, ofCV, ofSV, putP, Tr.get_upd, if_true, if_false, h0, h1]) (rfl) ?_
  refine opsP_call (args := [limbs xs]) (v := PA.bool true) (by simp (decide := true) only [fetchP, evalP, ct, cf, cs, ci, ofAV, ofCV, ofSV, putP, Tr.get_upd, if_true, if_false, h0, h1]) (hx g) ?_
  refine opsP_op (args := [PA.bool true]) (v := PA.bool false) (by simp (decide := true) only [fetchP, evalP, ct, cf, cs, ci, ofAV, ofCV, ofSV, putP, Tr.get_upd, if_true, if_false, h0, h1]) (rfl) ?_
  refine opsP_op (args := [PA.bool false]) (v := PA.bool false) (by simp (decide := true) only [fetchP, evalP, ct, cf, cs, ci, ofAV, ofCV, ofSV, putP, Tr.get_upd, if_true, if_false, h0, h1]) (rfl) ?_
  refine opsP_gop (args := [limbs ys]) (v := limbs ys) (by simp (decide := true) only [putP, Tr.get_upd, if_true, if_false]) (by simp (decide := true) only [fetchP, evalP, ct, cf, cs, ci, ofAV, ofCV, ofSV, putP, Tr.get_upd, if_true, if_false, h0, h1]) (rfl) ?_
  refine opsP_gcall (args := [limbs ys]) (v := PA.bool true) (by simp (decide := true) only [putP, Tr.get_upd, if_true, if_false]) (by simp (decide := true) only [fetchP, evalP, ct, cf, cs, ci, ofAV, ofCV, ofSV, putP, Tr.get_upd, if_true, if_false, h0, h1]) (hy g) ?_
  refine opsP_gop (args := [PA.bool true]) (v := PA.bool false) (by simp (decide := true) only [putP, Tr.get_upd, if_true, if_false]) (by simp (decide := true) only [fetchP, evalP, ct, cf, cs, ci, ofAV, ofCV, ofSV, putP, Tr.get_upd, if_true, if_false, h0, h1]) (rfl) ?_
  refine opsP_op (args := [PA.bool false, PA.bool true, PA.bool false]) (v := PA.bool false) (by simp (decide := true) only [fetchP, evalP, ct, cf, cs, ci, ofAV, ofCV, ofSV, putP, Tr.get_upd, if_true, if_false, h0, h1]) (rfl) ?_
  rfl
theorem repl_lim (n : Nat) : replP [lim 0] n = (List.replicate n 0).map lim := by
  induction n with
  | zero => rfl
  | succ n ih => simp [replP, ih, List.replicate_succ]
theorem mk_lims {L : Nat} {g : PHeap} (h : L ≤ 1000000) : opP (.mkslice 1 4 [(.int .u32 (.ofNat 0))]) [PA.int .i64 (.ofNat L), PA.int .i64 (.ofNat L)] g = some (.v (.s (.slice g.next 0 L 1 (some L))), g.new (.cells ((List.replicate L 0).map lim))) := by
  simp only [opP, pMkslice, ofSVs, ofSV]
  rw [if_pos ⟨Int.natCast_nonneg L, Int.le_refl _, by simp only [Int.ofNat_eq_natCast]; omega, by rw [Nat.ble_eq]; simp only [Int.ofNat_eq_natCast, Int.toNat_natCast]; omega⟩]
  simp only [Int.ofNat_eq_natCast, Int.toNat_natCast, ← repl_lim]
  rfl
theorem make_run {xs ys : List Nat} {fr : PFr} {g : PHeap} (h0 : fr.get k0 = some (limbs xs)) (h1 : fr.get k1 = some (limbs ys)) (hl : xs.length + ys.length ≤ 1000000) (call : PCaller) :
    opsP call [m k18 k0,a k19 (.lens) k18,m k20 k1,a k21 (.lens) k20,bi k22 .add (.t k19) (.t k21),o k23 (.mkslice 1 4 [(.int .u32 (.ofNat 0))]) [(.t k22),(.t k22)],m k6 k23] fr g =
      some ((putP (putP (putP (putP (putP (putP (putP fr (some k18) (limbs xs)) (some k19) (PA.int .i64 (.ofNat (xs.length)))) (some k20) (limbs ys)) (some k21) (PA.int .i64 (.ofNat (ys.length)))) (some k22) (PA.int .i64 (.ofNat (xs.length + ys.length)))) (some k23) (PA.v (.s (.slice g.next 0 (xs.length + ys.length) 1 (some (xs.length + ys.length)))))) (some k6) (PA.v (.s (.slice g.next 0 (xs.length + ys.length) 1 (some (xs.length + ys.length)))))), g.new (.cells ((List.replicate (xs.length + ys.length) 0).map lim))) := by
  refine opsP_op (args := [limbs xs]) (v := limbs xs) (by simp (decide := true) only [fetchP, evalP, ct, cf, cs, ci, ofAV, ofCV, ofSV, putP, Tr.get_upd, if_true, if_false, h0, h1]) (rfl) ?_
  refine opsP_op (args := [limbs xs]) (v := PA.int .i64 (.ofNat (xs.length))) (by simp (decide := true) only [fetchP, evalP, ct, cf, cs, ci, ofAV, ofCV, ofSV, putP, Tr.get_upd, if_true, if_false, h0, h1]) (lens_lst) ?_
  refine opsP_op (args := [limbs ys]) (v := limbs ys) (by simp (decide := true) only [fetchP, evalP, ct, cf, cs, ci, ofAV, ofCV, ofSV, putP, Tr.get_upd, if_true, if_false, h0, h1]) (rfl) ?_
  refine opsP_op (args := [limbs ys]) (v := PA.int .i64 (.ofNat (ys.length))) (by simp (decide := true) only [fetchP, evalP, ct, cf, cs, ci, ofAV, ofCV, ofSV, putP, Tr.get_upd, if_true, if_false, h0, h1]) (lens_lst) ?_
  refine opsP_op (args := [PA.int .i64 (.ofNat (xs.length)), PA.int .i64 (.ofNat (ys.length))]) (v := PA.int .i64 (.ofNat (xs.length + ys.length))) (by simp (decide := true) only [fetchP, evalP, ct, cf, cs, ci, ofAV, ofCV, ofSV, putP, Tr.get_upd, if_true, if_false, h0, h1]) (add_i64 (by omega)) ?_
  refine opsP_op (args := [PA.int .i64 (.ofNat (xs.length + ys.length)), PA.int .i64 (.ofNat (xs.length + ys.length))]) (v := PA.v (.s (.slice g.next 0 (xs.length + ys.length) 1 (some (xs.length + ys.length))))) (by simp (decide := true) only [fetchP, evalP, ct, cf, cs, ci, ofAV, ofCV, ofSV, putP, Tr.get_upd, if_true, if_false, h0, h1]) (mk_lims hl) ?_
  refine opsP_op (args := [PA.v (.s (.slice g.next 0 (xs.length + ys.length) 1 (some (xs.length + ys.length))))]) (v := PA.v (.s (.slice g.next 0 (xs.length + ys.length) 1 (some (xs.length + ys.length))))) (by simp (decide := true) only [fetchP, evalP, ct, cf, cs, ci, ofAV, ofCV, ofSV, putP, Tr.get_upd, if_true, if_false, h0, h1]) (rfl) ?_
  rfl
theorem start_run {xs : List Nat} {fr : PFr} {g : PHeap} (h0 : fr.get k0 = some (limbs xs)) (call : PCaller) :
    opsP call [m k24 k0,a k25 (.lens) k24,mc k26 (ci 0)] fr g =
      some ((putP (putP (putP fr (some k24) (limbs xs)) (some k25) (PA.int .i64 (.ofNat (xs.length)))) (some k26) (PA.int .i64 (.ofNat (0)))), g) := by
  refine opsP_op (args := [limbs xs]) (v := limbs xs) (by simp (decide := true) only [fetchP, evalP, ct, cf, cs, ci, ofAV, ofCV, ofSV, putP, Tr.get_upd, if_true, if_false, h0]) (rfl) ?_
  refine opsP_op (args := [limbs xs]) (v := PA.int .i64 (.ofNat (xs.length))) (by simp (decide := true) only [fetchP, evalP, ct, cf, cs, ci, ofAV, ofCV, ofSV, putP, Tr.get_upd, if_true, if_false, h0]) (lens_lst) ?_
  refine opsP_op (args := [PA.int .i64 (.ofNat (0))]) (v := PA.int .i64 (.ofNat (0))) (by simp (decide := true) only [fetchP, evalP, ct, cf, cs, ci, ofAV, ofCV, ofSV, putP, Tr.get_upd, if_true, if_false, h0]) (rfl) ?_
  rfl
theorem end_run {L : Nat} {r1 r2 : PV} {fr : PFr} {g g' : PHeap} (h6 : fr.get k6 = some (PA.v (.s (.slice .h 0 L 1 (some L))))) (call : PCaller) (hc : call 59 [PA.v (.s (.slice .h 0 L 1 (some L)))] g = some (PA.tup [.s r1, .s r2], g')) :
    opsP call [m k74 k6,c k75 59 [(.t k74)],a k76 (.extract 0) k75,a k77 (.extract 1) k75,m k4 k76,m k5 k77] fr g =
      some ((putP (putP (putP (putP (putP (putP fr (some k74) (PA.v (.s (.slice .h 0 L 1 (some L))))) (some k75) (PA.tup [.s r1, .s r2])) (some k76) (PA.v (.s r1))) (some k77) (PA.v (.s r2))) (some k4) (PA.v (.s r1))) (some k5) (PA.v (.s r2))), g') := by
  refine opsP_op (args := [PA.v (.s (.slice .h 0 L 1 (some L)))]) (v := PA.v (.s (.slice .h 0 L 1 (some L)))) (by simp (decide := true) only [fetchP, evalP, ct, cf, cs, ci, ofAV, ofCV, ofSV, putP, Tr.get_upd, if_true, if_false, h6]) (rfl) ?_
  refine opsP_call (args := [PA.v (.s (.slice .h 0 L 1 (some L)))]) (v := PA.tup [.s r1, .s r2]) (by simp (decide := true) only [fetchP, evalP, ct, cf, cs, ci, ofAV, ofCV, ofSV, putP, Tr.get_upd, if_true, if_false, h6]) (hc) ?_
  refine opsP_op (args := [PA.tup [.s r1, .s r2]]) (v := PA.v (.s r1)) (by simp (decide := true) only [fetchP, evalP, ct, cf, cs, ci, ofAV, ofCV, ofSV, putP, Tr.get_upd, if_true, if_false, h6]) (rfl) ?_
  refine opsP_op (args := [PA.tup [.s r1, .s r2]]) (v := PA.v (.s r2)) (by simp (decide := true) only [fetchP, evalP, ct, cf, cs, ci, ofAV, ofCV, ofSV, putP, Tr.get_upd, if_true, if_false, h6]) (rfl) ?_
  refine opsP_op (args := [PA.v (.s r1)]) (v := PA.v (.s r1)) (by simp (decide := true) only [fetchP, evalP, ct, cf, cs, ci, ofAV, ofCV, ofSV, putP, Tr.get_upd, if_true, if_false, h6]) (rfl) ?_
  refine opsP_op (args := [PA.v (.s r2)]) (v := PA.v (.s r2)) (by simp (decide := true) only [fetchP, evalP, ct, cf, cs, ci, ofAV, ofCV, ofSV, putP, Tr.get_upd, if_true, if_false, h6]) (rfl) ?_
  rfl
theorem f73_body : C.f73 = ⟨[.tmp k4,.tmp k5],.seq (.region [mc k4 cs,mc k5 (ci 0)]) (.seq (.seq (.region [m k10 k0,c k11 39 [(.t k10)],a k12 (.un .not) k11,m k13 k12,⟨(some k14),.op (.mov),[(.t k1)],(some (k13,false))⟩,⟨(some k15),.call 39,[(.t k14)],(some (k13,false))⟩,⟨(some k16),.op (.un .not),[(.t k15)],(some (k13,false))⟩,o k17 (.pick) [(.t k13),ct,(.t k16)]]) (.cond (.t k17) (.seq (.region [mc k4 cs,mc k5 (ci 1)]) (.ret)) (.skip)))
  (.seq (.region [m k18 k0,a k19 (.lens) k18,m k20 k1,a k21 (.lens) k20,bi k22 .add (.t k19) (.t k21),o k23 (.mkslice 1 4 [(.int .u32 (.ofNat 0))]) [(.t k22),(.t k22)],m k6 k23]) (.seq (.seq (.region [m k24 k0,a k25 (.lens) k24,mc k26 (ci 0)]) (.block 0 (.loop outer))) (.seq (.region [m k74 k6,c k75 59 [(.t k74)],a k76 (.extract 0) k75,a k77 (.extract 1) k75,m k4 k76,m k5 k77]) (.ret)))))⟩ := rfl
theorem mul_run {xs ys : List Nat} {r1 r2 : PV} (hF : F 73 = some C.f73) (hp : K.pure 39 = true) (hv : K.ans 39 [limbs xs] = some (PA.bool true)) (hw : K.ans 39 [limbs ys] = some (PA.bool true)) (hp' : K.pure 59 = true)
    (ht : K.ans 59 [limbs (rows xs ys xs.length (List.replicate (xs.length + ys.length) 0))] = some (PA.tup [.s r1, .s r2])) (hr : ∀ g, frzA deep (PA.tup [.s r1, .s r2]) g = some (PA.tup [.s r1, .s r2], g))
    (hx : Lim xs) (hy : Lim ys) (hne : xs.length + ys.length ≠ 0) (hl : xs.length + ys.length ≤ 1000000) : ∃ n, runP F K n 73 [limbs xs, limbs ys] = some (PA.tup [.s r1, .s r2]) := by
  have hcall : ∀ (zs : List Nat) (n : Nat) (g : PHeap), K.ans 39 [limbs zs] = some (PA.bool true) → callP F K (execP F K n) 39 [limbs zs] g = some (PA.bool true, g) := by
    intro zs n g h
    simp only [callP, hp, if_true, frz_lst, h]
  have f0 : (Tr.z.putFrom 0 [limbs xs, limbs ys]).get k0 = some (limbs xs) := rfl
  have f1 : (Tr.z.putFrom 0 [limbs xs, limbs ys]).get k1 = some (limbs ys) := rfl
  have p1 : ∃ fr1, Ev F K (.region [mc k4 cs,mc k5 (ci 0)]) (Tr.z.putFrom 0 [limbs xs, limbs ys]) .empty .normal fr1 .empty ∧ fr1.get k0 = some (limbs xs) ∧ fr1.get k1 = some (limbs ys) := ⟨_, Ev.region fun _ => rfl, rfl, rfl⟩
  obtain ⟨fr1, e1, h0, h1⟩ := p1
  have p2 : ∃ fr2, Ev F K (.region [m k10 k0,c k11 39 [(.t k10)],a k12 (.un .not) k11,m k13 k12,⟨(some k14),.op (.mov),[(.t k1)],(some (k13,false))⟩,⟨(some k15),.call 39,[(.t k14)],(some (k13,false))⟩,⟨(some k16),.op (.un .not),[(.t k15)],(some (k13,false))⟩,o k17 (.pick) [(.t k13),ct,(.t k16)]]) fr1 .empty .normal fr2 .empty ∧ evalP fr2 (.t k17) = some (PA.bool false) ∧ fr2.get k0 = some (limbs xs) ∧ fr2.get k1 = some (limbs ys) := by
    refine ⟨_, Ev.region_call (n := 0) (head_run h0 h1 (fun g => hcall xs 0 g hv) (fun g => hcall ys 0 g hw)), ?_, ?_, ?_⟩
    · simp only [evalP, putP, Tr.get_upd, if_true]
    · (simp (decide := true) only [putP, Tr.get_upd, if_true, if_false] at h0 h1 ⊢; try (first | assumption | rfl))
    · (simp (decide := true) only [putP, Tr.get_upd, if_true, if_false] at h0 h1 ⊢; try (first | assumption | rfl))
  obtain ⟨fr2, e2, hc, h0, h1⟩ := p2
  have p3 : ∃ fr3 g3, Ev F K (.region [m k18 k0,a k19 (.lens) k18,m k20 k1,a k21 (.lens) k20,bi k22 .add (.t k19) (.t k21),o k23 (.mkslice 1 4 [(.int .u32 (.ofNat 0))]) [(.t k22),(.t k22)],m k6 k23]) fr2 .empty .normal fr3 g3 ∧ fr3.get k0 = some (limbs xs) ∧ fr3.get k1 = some (limbs ys) ∧ fr3.get k6 = some (PA.v (.s (.slice .h 0 (xs.length + ys.length) 1 (some (xs.length + ys.length))))) ∧ HCells (List.replicate (xs.length + ys.length) 0) g3 := by
    refine ⟨_, _, Ev.region (make_run h0 h1 hl), ?_, ?_, ?_, ⟨[], ?_⟩⟩
    · (simp (decide := true) only [putP, Tr.get_upd, if_true, if_false] at h0 h1 ⊢; try (first | assumption | rfl))
    · (simp (decide := true) only [putP, Tr.get_upd, if_true, if_false] at h0 h1 ⊢; try (first | assumption | rfl))
    · simp only [putP, Tr.get_upd, if_true]; rfl
    · rfl
  obtain ⟨fr3, g3, e3, h0, h1, h6, hh⟩ := p3
  have p4 : ∃ fr4, Ev F K (.region [m k24 k0,a k25 (.lens) k24,mc k26 (ci 0)]) fr3 g3 .normal fr4 g3 ∧ So xs ys (xs.length + ys.length) 0 fr4 := by
    refine ⟨_, Ev.region (start_run h0), ?_⟩
    constructor <;> (simp (decide := true) only [putP, Tr.get_upd, if_true, if_false] at h0 h1 h6 ⊢; try (first | assumption | rfl))
  obtain ⟨fr4, e4, s4⟩ := p4
  have hlim : Lim (List.replicate (xs.length + ys.length) 0) := fun n hn => by rw [(List.mem_replicate.1 hn).2]; decide
  obtain ⟨fr5, g5, e5, s5, hh5⟩ := outer_all (F := F) (K := K) s4 hh (by simp) (Nat.le_refl _) hx hy hlim (by omega)
  have hlen : (rows xs ys xs.length (List.replicate (xs.length + ys.length) 0)).length = xs.length + ys.length := by rw [(rows_ok hx hy _ hlim).2]; simp
  obtain ⟨g6, hg6⟩ := frz_out hh5 hlen hne
  have hc59 : ∀ n, callP F K (execP F K n) 59 [PA.v (.s (.slice .h 0 (xs.length + ys.length) 1 (some (xs.length + ys.length))))] g5 = some (PA.tup [.s r1, .s r2], g6) := by
    intro n
    simp only [callP, hp', if_true, hg6, ht]
  have p6 : ∃ fr6, Ev F K (.region [m k74 k6,c k75 59 [(.t k74)],a k76 (.extract 0) k75,a k77 (.extract 1) k75,m k4 k76,m k5 k77]) fr5 g5 .normal fr6 g6 ∧ fr6.get k4 = some (PA.v (.s r1)) ∧ fr6.get k5 = some (PA.v (.s r2)) := by
    refine ⟨_, Ev.region_call (n := 0) (end_run s5.go _ (hc59 0)), ?_, ?_⟩
    · simp only [putP, Tr.get_upd, C.k4, C.k5, Key.o.injEq, Key.i.injEq, reduceCtorEq, if_true, if_false]
    · simp only [putP, Tr.get_upd, if_true]
  obtain ⟨fr6, e6, r4, r5⟩ := p6
  obtain ⟨n, e⟩ := Ev.seq e1 (Ev.seq (Ev.seq e2 (Ev.cond_f hc Ev.skip)) (Ev.seq e3 (Ev.seq (Ev.seq e4 e5) (Ev.seq e6 Ev.ret))))
  refine ⟨n, ?_⟩
  have hbody : bodyP F (execP F K n) 73 [limbs xs, limbs ys] .empty = some (PA.tup [.s r1, .s r2], g6) := by
    have e' : execP F K n C.f73.body (Tr.z.putFrom 0 [limbs xs, limbs ys]) .empty = some (.ret, fr6, g6) := by rw [f73_body]; exact e
    have hres : resultsP fr6 g6 C.f73.results = some [.s r1, .s r2] := by
      have : C.f73.results = [.tmp k4, .tmp k5] := rfl
      rw [this]
      simp only [resultsP, resultP, r4, r5]
    simp only [bodyP, hF, e', hres]
    rfl
  simp only [runP, aloneP, hbody, hr]
end Go.Pv.M
end
section
namespace Go.Pv.M
open Go.Vm Go.Vm.C
open Go.Vm.Key (kn)
variable {F : Funcs} {K : Known}
theorem rem_u64 {n : Nat} {g : PHeap} : opP (.bin .rem) [PA.int .u64 (.ofNat n), PA.int .u64 (.ofNat 4294967296)] g = some (PA.int .u64 (.ofNat (n % 4294967296)), g) := by
  show noPS g (match (if isShift .rem then shiftBin .rem .u64 (Int.ofNat n) (Int.ofNat 4294967296) else if IntKind.u64 = IntKind.u64 then intBin .rem .u64 (Int.ofNat n) (Int.ofNat 4294967296) else none) with | some s => ofSV s | none => none) = _
  have : intBin .rem .u64 (Int.ofNat n) (Int.ofNat 4294967296) = some (.int .u64 (.ofNat (n % 4294967296))) := rfl
  simp only [isShift, Bool.false_eq_true, if_false, if_true, this]; rfl
theorem quo_u64 {n : Nat} {g : PHeap} (h : n ≤ 18446744073709551615) : opP (.bin .quo) [PA.int .u64 (.ofNat n), PA.int .u64 (.ofNat 4294967296)] g = some (PA.int .u64 (.ofNat (n / 4294967296)), g) := by
  show noPS g (match (if isShift .quo then shiftBin .quo .u64 (Int.ofNat n) (Int.ofNat 4294967296) else if IntKind.u64 = IntKind.u64 then intBin .quo .u64 (Int.ofNat n) (Int.ofNat 4294967296) else none) with | some s => ofSV s | none => none) = _
  have : intBin .quo .u64 (Int.ofNat n) (Int.ofNat 4294967296) = some (.int .u64 (IntKind.u64.wrap (.ofNat (n / 4294967296)))) := rfl
  simp only [isShift, Bool.false_eq_true, if_false, if_true, this, wrapU (show n / 4294967296 ≤ 18446744073709551615 by omega)]; rfl
theorem conv_u32' (n : Nat) {g : PHeap} : opP (.conv .u32) [PA.int .u64 (.ofNat (n % 4294967296))] g = some (PA.v (.s (lim (n % 4294967296))), g) := by
  have := conv_u32 (n % 4294967296) (g := g)
  rwa [Nat.mod_mod] at this
theorem a_head {call : PCaller} {xs ys : List Nat} {fr : PFr} {g : PHeap} (h0 : fr.get k0 = some (limbs xs)) (h1 : fr.get k1 = some (limbs ys)) (hx : ∀ g, call 35 [limbs xs] g = some (PA.bool true, g)) (hv : ∀ g, call 35 [limbs ys] g = some (PA.bool true, g)) :
    opsP call [m k11 k0,c k12 35 [(.t k11)],a k13 (.un .not) k12,m k14 k13,⟨(some k15),.op (.mov),[(.t k1)],(some (k14,false))⟩,⟨(some k16),.call 35,[(.t k15)],(some (k14,false))⟩,⟨(some k17),.op (.un .not),[(.t k16)],(some (k14,false))⟩,o k18 (.pick) [(.t k14),ct,(.t k17)]] fr g = some ((putP (putP (putP (putP (putP (putP (putP (putP fr (some k11) (limbs xs)) (some k12) (PA.bool true)) (some k13) (PA.bool false)) (some k14) (PA.bool false)) (some k15) (limbs ys)) (some k16) (PA.bool true)) (some k17) (PA.bool false)) (some k18) (PA.bool false)), g) := by
  refine opsP_op (args := [limbs xs]) (v := limbs xs) (by simp (decide := true) only [fetchP, evalP, ct, cf, cs, ci, ofAV, ofCV, ofSV, putP, Tr.get_upd, if_true, if_false, h0, h1]) (rfl) ?_
  refine opsP_call (args := [limbs xs]) (v := PA.bool true) (by simp (decide := true) only [fetchP, evalP, ct, cf, cs, ci, ofAV, ofCV, ofSV, putP, Tr.get_upd, if_true, if_false, h0, h1]) (hx g) ?_
  refine opsP_op (args := [PA.bool true]) (v := PA.bool false) (by simp (decide := true) only [fetchP, evalP, ct, cf, cs, ci, ofAV, ofCV, ofSV, putP, Tr.get_upd, if_true, if_false, h0, h1]) (rfl) ?_
  refine opsP_op (args := [PA.bool false]) (v := PA.bool false) (by simp (decide := true) only [fetchP, evalP, ct, cf, cs, ci, ofAV, ofCV, ofSV, putP, Tr.get_upd, if_true, if_false, h0, h1]) (rfl) ?_
  refine opsP_gop (args := [limbs ys]) (v := limbs ys) (by simp (decide := true) only [putP, Tr.get_upd, if_true, if_false]) (by simp (decide := true) only [fetchP, evalP, ct, cf, cs, ci, ofAV, ofCV, ofSV, putP, Tr.get_upd, if_true, if_false, h0, h1]) (rfl) ?_
  refine opsP_gcall (args := [limbs ys]) (v := PA.bool true) (by simp (decide := true) only [putP, Tr.get_upd, if_true, if_false]) (by simp (decide := true) only [fetchP, evalP, ct, cf, cs, ci, ofAV, ofCV, ofSV, putP, Tr.get_upd, if_true, if_false, h0, h1]) (hv g) ?_
  refine opsP_gop (args := [PA.bool true]) (v := PA.bool false) (by simp (decide := true) only [putP, Tr.get_upd, if_true, if_false]) (by simp (decide := true) only [fetchP, evalP, ct, cf, cs, ci, ofAV, ofCV, ofSV, putP, Tr.get_upd, if_true, if_false, h0, h1]) (rfl) ?_
  refine opsP_op (args := [PA.bool false, PA.bool true, PA.bool false]) (v := PA.bool false) (by simp (decide := true) only [fetchP, evalP, ct, cf, cs, ci, ofAV, ofCV, ofSV, putP, Tr.get_upd, if_true, if_false, h0, h1]) (rfl) ?_
  rfl
theorem a_make {call : PCaller} {xs ys : List Nat} {fr : PFr} {g : PHeap} (h0 : fr.get k0 = some (limbs xs)) (h1 : fr.get k1 = some (limbs ys)) (hl : xs.length + ys.length ≤ 1000000) :
    opsP call [m k19 k0,a k20 (.lens) k19,m k21 k1,a k22 (.lens) k21,bi k23 .add (.t k20) (.t k22),o k24 (.mkslice 1 4 [(.int .u32 (.ofNat 0))]) [(.t k23),(.t k23)],m k6 k24] fr g = some ((putP (putP (putP (putP (putP (putP (putP fr (some k19) (limbs xs)) (some k20) (PA.int .i64 (.ofNat (xs.length)))) (some k21) (limbs ys)) (some k22) (PA.int .i64 (.ofNat (ys.length)))) (some k23) (PA.int .i64 (.ofNat (xs.length + ys.length)))) (some k24) (PA.v (.s (.slice g.next 0 (xs.length + ys.length) 1 (some (xs.length + ys.length)))))) (some k6) (PA.v (.s (.slice g.next 0 (xs.length + ys.length) 1 (some (xs.length + ys.length)))))), g.new (.cells ((List.replicate (xs.length + ys.length) 0).map lim))) := by
  refine opsP_op (args := [limbs xs]) (v := limbs xs) (by simp (decide := true) only [fetchP, evalP, ct, cf, cs, ci, ofAV, ofCV, ofSV, putP, Tr.get_upd, if_true, if_false, h0, h1]) (rfl) ?_
  refine opsP_op (args := [limbs xs]) (v := PA.int .i64 (.ofNat (xs.length))) (by simp (decide := true) only [fetchP, evalP, ct, cf, cs, ci, ofAV, ofCV, ofSV, putP, Tr.get_upd, if_true, if_false, h0, h1]) (lens_lst) ?_
  refine opsP_op (args := [limbs ys]) (v := limbs ys) (by simp (decide := true) only [fetchP, evalP, ct, cf, cs, ci, ofAV, ofCV, ofSV, putP, Tr.get_upd, if_true, if_false, h0, h1]) (rfl) ?_
  refine opsP_op (args := [limbs ys]) (v := PA.int .i64 (.ofNat (ys.length))) (by simp (decide := true) only [fetchP, evalP, ct, cf, cs, ci, ofAV, ofCV, ofSV, putP, Tr.get_upd, if_true, if_false, h0, h1]) (lens_lst) ?_
  refine opsP_op (args := [PA.int .i64 (.ofNat (xs.length)), PA.int .i64 (.ofNat (ys.length))]) (v := PA.int .i64 (.ofNat (xs.length + ys.length))) (by simp (decide := true) only [fetchP, evalP, ct, cf, cs, ci, ofAV, ofCV, ofSV, putP, Tr.get_upd, if_true, if_false, h0, h1]) (add_i64 (by omega)) ?_
  refine opsP_op (args := [PA.int .i64 (.ofNat (xs.length + ys.length)), PA.int .i64 (.ofNat (xs.length + ys.length))]) (v := PA.v (.s (.slice g.next 0 (xs.length + ys.length) 1 (some (xs.length + ys.length))))) (by simp (decide := true) only [fetchP, evalP, ct, cf, cs, ci, ofAV, ofCV, ofSV, putP, Tr.get_upd, if_true, if_false, h0, h1]) (mk_lims hl) ?_
  refine opsP_op (args := [PA.v (.s (.slice g.next 0 (xs.length + ys.length) 1 (some (xs.length + ys.length))))]) (v := PA.v (.s (.slice g.next 0 (xs.length + ys.length) 1 (some (xs.length + ys.length))))) (by simp (decide := true) only [fetchP, evalP, ct, cf, cs, ci, ofAV, ofCV, ofSV, putP, Tr.get_upd, if_true, if_false, h0, h1]) (rfl) ?_
  rfl
theorem a_ot {call : PCaller} {xs : List Nat} {i : Nat} {fr : PFr} {g : PHeap} (h0 : fr.get k0 = some (limbs xs)) (h7 : fr.get k7 = some (PA.int .i64 (.ofNat (i)))) :
    opsP call [m k25 k7,m k26 k0,a k27 (.lens) k26,bi k28 .lss (.t k25) (.t k27)] fr g = some ((putP (putP (putP (putP fr (some k25) (PA.int .i64 (.ofNat (i)))) (some k26) (limbs xs)) (some k27) (PA.int .i64 (.ofNat (xs.length)))) (some k28) (PA.bool (decide (i < xs.length)))), g) := by
  refine opsP_op (args := [PA.int .i64 (.ofNat (i))]) (v := PA.int .i64 (.ofNat (i))) (by simp (decide := true) only [fetchP, evalP, ct, cf, cs, ci, ofAV, ofCV, ofSV, putP, Tr.get_upd, if_true, if_false, h0, h7]) (rfl) ?_
  refine opsP_op (args := [limbs xs]) (v := limbs xs) (by simp (decide := true) only [fetchP, evalP, ct, cf, cs, ci, ofAV, ofCV, ofSV, putP, Tr.get_upd, if_true, if_false, h0, h7]) (rfl) ?_
  refine opsP_op (args := [limbs xs]) (v := PA.int .i64 (.ofNat (xs.length))) (by simp (decide := true) only [fetchP, evalP, ct, cf, cs, ci, ofAV, ofCV, ofSV, putP, Tr.get_upd, if_true, if_false, h0, h7]) (lens_lst) ?_
  refine opsP_op (args := [PA.int .i64 (.ofNat (i)), PA.int .i64 (.ofNat (xs.length))]) (v := PA.bool (decide (i < xs.length))) (by simp (decide := true) only [fetchP, evalP, ct, cf, cs, ci, ofAV, ofCV, ofSV, putP, Tr.get_upd, if_true, if_false, h0, h7]) (lss_i64) ?_
  rfl
theorem a_oi {call : PCaller} {i : Nat} {fr : PFr} {g : PHeap} (h7 : fr.get k7 = some (PA.int .i64 (.ofNat (i)))) (bnd : i < 9223372036854775807) :
    opsP call [m k29 k7,bi k30 .add (.t k29) (ci 1),m k7 k30] fr g = some ((putP (putP (putP fr (some k29) (PA.int .i64 (.ofNat (i)))) (some k30) (PA.int .i64 (.ofNat (i + 1)))) (some k7) (PA.int .i64 (.ofNat (i + 1)))), g) := by
  refine opsP_op (args := [PA.int .i64 (.ofNat (i))]) (v := PA.int .i64 (.ofNat (i))) (by simp (decide := true) only [fetchP, evalP, ct, cf, cs, ci, ofAV, ofCV, ofSV, putP, Tr.get_upd, if_true, if_false, h7]) (rfl) ?_
  refine opsP_op (args := [PA.int .i64 (.ofNat (i)), PA.int .i64 (.ofNat (1))]) (v := PA.int .i64 (.ofNat (i + 1))) (by simp (decide := true) only [fetchP, evalP, ct, cf, cs, ci, ofAV, ofCV, ofSV, putP, Tr.get_upd, if_true, if_false, h7]) (add_i64 (by omega)) ?_
  refine opsP_op (args := [PA.int .i64 (.ofNat (i + 1))]) (v := PA.int .i64 (.ofNat (i + 1))) (by simp (decide := true) only [fetchP, evalP, ct, cf, cs, ci, ofAV, ofCV, ofSV, putP, Tr.get_upd, if_true, if_false, h7]) (rfl) ?_
  rfl
theorem a_it {call : PCaller} {ys : List Nat} {j : Nat} {fr : PFr} {g : PHeap} (h1 : fr.get k1 = some (limbs ys)) (h9 : fr.get k9 = some (PA.int .i64 (.ofNat (j)))) :
    opsP call [m k31 k9,m k32 k1,a k33 (.lens) k32,bi k34 .lss (.t k31) (.t k33)] fr g = some ((putP (putP (putP (putP fr (some k31) (PA.int .i64 (.ofNat (j)))) (some k32) (limbs ys)) (some k33) (PA.int .i64 (.ofNat (ys.length)))) (some k34) (PA.bool (decide (j < ys.length)))), g) := by
  refine opsP_op (args := [PA.int .i64 (.ofNat (j))]) (v := PA.int .i64 (.ofNat (j))) (by simp (decide := true) only [fetchP, evalP, ct, cf, cs, ci, ofAV, ofCV, ofSV, putP, Tr.get_upd, if_true, if_false, h1, h9]) (rfl) ?_
  refine opsP_op (args := [limbs ys]) (v := limbs ys) (by simp (decide := true) only [fetchP, evalP, ct, cf, cs, ci, ofAV, ofCV, ofSV, putP, Tr.get_upd, if_true, if_false, h1, h9]) (rfl) ?_
  refine opsP_op (args := [limbs ys]) (v := PA.int .i64 (.ofNat (ys.length))) (by simp (decide := true) only [fetchP, evalP, ct, cf, cs, ci, ofAV, ofCV, ofSV, putP, Tr.get_upd, if_true, if_false, h1, h9]) (lens_lst) ?_
  refine opsP_op (args := [PA.int .i64 (.ofNat (j)), PA.int .i64 (.ofNat (ys.length))]) (v := PA.bool (decide (j < ys.length))) (by simp (decide := true) only [fetchP, evalP, ct, cf, cs, ci, ofAV, ofCV, ofSV, putP, Tr.get_upd, if_true, if_false, h1, h9]) (lss_i64) ?_
  rfl
theorem a_ii {call : PCaller} {j : Nat} {fr : PFr} {g : PHeap} (h9 : fr.get k9 = some (PA.int .i64 (.ofNat (j)))) (bnd : j < 9223372036854775807) :
    opsP call [m k35 k9,bi k36 .add (.t k35) (ci 1),m k9 k36] fr g = some ((putP (putP (putP fr (some k35) (PA.int .i64 (.ofNat (j)))) (some k36) (PA.int .i64 (.ofNat (j + 1)))) (some k9) (PA.int .i64 (.ofNat (j + 1)))), g) := by
  refine opsP_op (args := [PA.int .i64 (.ofNat (j))]) (v := PA.int .i64 (.ofNat (j))) (by simp (decide := true) only [fetchP, evalP, ct, cf, cs, ci, ofAV, ofCV, ofSV, putP, Tr.get_upd, if_true, if_false, h9]) (rfl) ?_
  refine opsP_op (args := [PA.int .i64 (.ofNat (j)), PA.int .i64 (.ofNat (1))]) (v := PA.int .i64 (.ofNat (j + 1))) (by simp (decide := true) only [fetchP, evalP, ct, cf, cs, ci, ofAV, ofCV, ofSV, putP, Tr.get_upd, if_true, if_false, h9]) (add_i64 (by omega)) ?_
  refine opsP_op (args := [PA.int .i64 (.ofNat (j + 1))]) (v := PA.int .i64 (.ofNat (j + 1))) (by simp (decide := true) only [fetchP, evalP, ct, cf, cs, ci, ofAV, ofCV, ofSV, putP, Tr.get_upd, if_true, if_false, h9]) (rfl) ?_
  rfl
def ra : List VOper := [m k37 k0,m k38 k7,c k39 36 [(.t k37),(.t k38)],m k40 k1,m k41 k9,c k42 36 [(.t k40),(.t k41)],bi k43 .mul (.t k39) (.t k42),m k44 k6,m k45 k7,m k46 k9,bi k47 .add (.t k45) (.t k46),c k48 36 [(.t k44),(.t k47)],bi k49 .add (.t k43) (.t k48),m k50 k8,bi k51 .add (.t k49) (.t k50),m k10 k51]
def rb : List VOper := [m k52 k6,m k53 k7,m k54 k9,bi k55 .add (.t k53) (.t k54),m k56 k10,bi k57 .rem (.t k56) (.c (.v (.s (.int .u64 (.ofNat 4294967296))))),a k58 (.conv .u32) k57,ix k59 1 k52 k55,st 1 k59 (.t k58)]
def rc : List VOper := [m k60 k10,bi k61 .quo (.t k60) (.c (.v (.s (.int .u64 (.ofNat 4294967296))))),m k8 k61]
def re : List VOper := [m k62 k6,m k63 k7,m k64 k1,a k65 (.lens) k64,bi k66 .add (.t k63) (.t k65),m k67 k8,a k68 (.conv .u32) k67,ix k69 1 k62 k66,st 1 k69 (.t k68)]
theorem a_ra {call : PCaller} {xs ys : List Nat} {L i j c x y z : Nat} {fr : PFr} {g : PHeap} (h0 : fr.get k0 = some (limbs xs)) (h1 : fr.get k1 = some (limbs ys)) (h6 : fr.get k6 = some (PA.v (.s (.slice .h 0 L 1 (some L))))) (h7 : fr.get k7 = some (PA.int .i64 (.ofNat (i)))) (h8 : fr.get k8 = some (PA.int .u64 (.ofNat (c)))) (h9 : fr.get k9 = some (PA.int .i64 (.ofNat (j)))) (bx : x < 4294967296) (by' : y < 4294967296) (bz : z < 4294967296) (bc : c < 4294967296) (bl : i + j < 9223372036854775807) (hxy : x * y ≤ 18446744065119617025) (c1 : call 36 [limbs xs, PA.int .i64 (.ofNat (i))] g = some (PA.int .u64 (.ofNat (x)), g)) (c2 : call 36 [limbs ys, PA.int .i64 (.ofNat (j))] g = some (PA.int .u64 (.ofNat (y)), g)) (c3 : call 36 [PA.v (.s (.slice .h 0 L 1 (some L))), PA.int .i64 (.ofNat (i + j))] g = some (PA.int .u64 (.ofNat (z)), g)) :
    opsP call ra fr g = some ((putP (putP (putP (putP (putP (putP (putP (putP (putP (putP (putP (putP (putP (putP (putP (putP fr (some k37) (limbs xs)) (some k38) (PA.int .i64 (.ofNat (i)))) (some k39) (PA.int .u64 (.ofNat (x)))) (some k40) (limbs ys)) (some k41) (PA.int .i64 (.ofNat (j)))) (some k42) (PA.int .u64 (.ofNat (y)))) (some k43) (PA.int .u64 (.ofNat (x * y)))) (some k44) (PA.v (.s (.slice .h 0 L 1 (some L))))) (some k45) (PA.int .i64 (.ofNat (i)))) (some k46) (PA.int .i64 (.ofNat (j)))) (some k47) (PA.int .i64 (.ofNat (i + j)))) (some k48) (PA.int .u64 (.ofNat (z)))) (some k49) (PA.int .u64 (.ofNat (x * y + z)))) (some k50) (PA.int .u64 (.ofNat (c)))) (some k51) (PA.int .u64 (.ofNat (x * y + z + c)))) (some k10) (PA.int .u64 (.ofNat (x * y + z + c)))), g) := by
  refine opsP_op (args := [limbs xs]) (v := limbs xs) (by simp (decide := true) only [fetchP, evalP, ct, cf, cs, ci, ofAV, ofCV, ofSV, putP, Tr.get_upd, if_true, if_false, h0, h1, h6, h7, h8, h9]) (rfl) ?_
  refine opsP_op (args := [PA.int .i64 (.ofNat (i))]) (v := PA.int .i64 (.ofNat (i))) (by simp (decide := true) only [fetchP, evalP, ct, cf, cs, ci, ofAV, ofCV, ofSV, putP, Tr.get_upd, if_true, if_false, h0, h1, h6, h7, h8, h9]) (rfl) ?_
  refine opsP_call (args := [limbs xs, PA.int .i64 (.ofNat (i))]) (v := PA.int .u64 (.ofNat (x))) (by simp (decide := true) only [fetchP, evalP, ct, cf, cs, ci, ofAV, ofCV, ofSV, putP, Tr.get_upd, if_true, if_false, h0, h1, h6, h7, h8, h9]) (c1) ?_
  refine opsP_op (args := [limbs ys]) (v := limbs ys) (by simp (decide := true) only [fetchP, evalP, ct, cf, cs, ci, ofAV, ofCV, ofSV, putP, Tr.get_upd, if_true, if_false, h0, h1, h6, h7, h8, h9]) (rfl) ?_
  refine opsP_op (args := [PA.int .i64 (.ofNat (j))]) (v := PA.int .i64 (.ofNat (j))) (by simp (decide := true) only [fetchP, evalP, ct, cf, cs, ci, ofAV, ofCV, ofSV, putP, Tr.get_upd, if_true, if_false, h0, h1, h6, h7, h8, h9]) (rfl) ?_
  refine opsP_call (args := [limbs ys, PA.int .i64 (.ofNat (j))]) (v := PA.int .u64 (.ofNat (y))) (by simp (decide := true) only [fetchP, evalP, ct, cf, cs, ci, ofAV, ofCV, ofSV, putP, Tr.get_upd, if_true, if_false, h0, h1, h6, h7, h8, h9]) (c2) ?_
  refine opsP_op (args := [PA.int .u64 (.ofNat (x)), PA.int .u64 (.ofNat (y))]) (v := PA.int .u64 (.ofNat (x * y))) (by simp (decide := true) only [fetchP, evalP, ct, cf, cs, ci, ofAV, ofCV, ofSV, putP, Tr.get_upd, if_true, if_false, h0, h1, h6, h7, h8, h9]) (mul_u64 (by omega)) ?_
  refine opsP_op (args := [PA.v (.s (.slice .h 0 L 1 (some L)))]) (v := PA.v (.s (.slice .h 0 L 1 (some L)))) (by simp (decide := true) only [fetchP, evalP, ct, cf, cs, ci, ofAV, ofCV, ofSV, putP, Tr.get_upd, if_true, if_false, h0, h1, h6, h7, h8, h9]) (rfl) ?_
  refine opsP_op (args := [PA.int .i64 (.ofNat (i))]) (v := PA.int .i64 (.ofNat (i))) (by simp (decide := true) only [fetchP, evalP, ct, cf, cs, ci, ofAV, ofCV, ofSV, putP, Tr.get_upd, if_true, if_false, h0, h1, h6, h7, h8, h9]) (rfl) ?_
  refine opsP_op (args := [PA.int .i64 (.ofNat (j))]) (v := PA.int .i64 (.ofNat (j))) (by simp (decide := true) only [fetchP, evalP, ct, cf, cs, ci, ofAV, ofCV, ofSV, putP, Tr.get_upd, if_true, if_false, h0, h1, h6, h7, h8, h9]) (rfl) ?_
  refine opsP_op (args := [PA.int .i64 (.ofNat (i)), PA.int .i64 (.ofNat (j))]) (v := PA.int .i64 (.ofNat (i + j))) (by simp (decide := true) only [fetchP, evalP, ct, cf, cs, ci, ofAV, ofCV, ofSV, putP, Tr.get_upd, if_true, if_false, h0, h1, h6, h7, h8, h9]) (add_i64 (by omega)) ?_
  refine opsP_call (args := [PA.v (.s (.slice .h 0 L 1 (some L))), PA.int .i64 (.ofNat (i + j))]) (v := PA.int .u64 (.ofNat (z))) (by simp (decide := true) only [fetchP, evalP, ct, cf, cs, ci, ofAV, ofCV, ofSV, putP, Tr.get_upd, if_true, if_false, h0, h1, h6, h7, h8, h9]) (c3) ?_
  refine opsP_op (args := [PA.int .u64 (.ofNat (x * y)), PA.int .u64 (.ofNat (z))]) (v := PA.int .u64 (.ofNat (x * y + z))) (by simp (decide := true) only [fetchP, evalP, ct, cf, cs, ci, ofAV, ofCV, ofSV, putP, Tr.get_upd, if_true, if_false, h0, h1, h6, h7, h8, h9]) (add_u64 (by omega)) ?_
  refine opsP_op (args := [PA.int .u64 (.ofNat (c))]) (v := PA.int .u64 (.ofNat (c))) (by simp (decide := true) only [fetchP, evalP, ct, cf, cs, ci, ofAV, ofCV, ofSV, putP, Tr.get_upd, if_true, if_false, h0, h1, h6, h7, h8, h9]) (rfl) ?_
  refine opsP_op (args := [PA.int .u64 (.ofNat (x * y + z)), PA.int .u64 (.ofNat (c))]) (v := PA.int .u64 (.ofNat (x * y + z + c))) (by simp (decide := true) only [fetchP, evalP, ct, cf, cs, ci, ofAV, ofCV, ofSV, putP, Tr.get_upd, if_true, if_false, h0, h1, h6, h7, h8, h9]) (add_u64 (by omega)) ?_
  refine opsP_op (args := [PA.int .u64 (.ofNat (x * y + z + c))]) (v := PA.int .u64 (.ofNat (x * y + z + c))) (by simp (decide := true) only [fetchP, evalP, ct, cf, cs, ci, ofAV, ofCV, ofSV, putP, Tr.get_upd, if_true, if_false, h0, h1, h6, h7, h8, h9]) (rfl) ?_
  rfl
theorem a_rb {call : PCaller} {out : List Nat} {L i j s : Nat} {fr : PFr} {g : PHeap} {log : List (Nat × Nat)} (h6 : fr.get k6 = some (PA.v (.s (.slice .h 0 L 1 (some L))))) (h7 : fr.get k7 = some (PA.int .i64 (.ofNat (i)))) (h9 : fr.get k9 = some (PA.int .i64 (.ofNat (j)))) (h10 : fr.get k10 = some (PA.int .u64 (.ofNat (s)))) (hh : g.get .h = some ⟨.cells (out.map lim), true, false, [], log⟩) (hlt : i + j < out.length) (hL : out.length = L) (bl : L ≤ 9223372036854775807) :
    opsP call rb fr g = some ((putP (putP (putP (putP (putP (putP (putP (putP (putP fr (some k52) (PA.v (.s (.slice .h 0 L 1 (some L))))) (some k53) (PA.int .i64 (.ofNat (i)))) (some k54) (PA.int .i64 (.ofNat (j)))) (some k55) (PA.int .i64 (.ofNat (i + j)))) (some k56) (PA.int .u64 (.ofNat (s)))) (some k57) (PA.int .u64 (.ofNat (s % 4294967296)))) (some k58) (PA.v (.s (lim (s % 4294967296))))) (some k59) (PA.v (.s (.ptr .h (i + j))))) none (PA.unit)), put0 g (out.set (i + j) (s % 4294967296)) ((i + j, 1) :: log)) := by
  refine opsP_op (args := [PA.v (.s (.slice .h 0 L 1 (some L)))]) (v := PA.v (.s (.slice .h 0 L 1 (some L)))) (by simp (decide := true) only [fetchP, evalP, ct, cf, cs, ci, ofAV, ofCV, ofSV, putP, Tr.get_upd, if_true, if_false, h6, h7, h9, h10]) (rfl) ?_
  refine opsP_op (args := [PA.int .i64 (.ofNat (i))]) (v := PA.int .i64 (.ofNat (i))) (by simp (decide := true) only [fetchP, evalP, ct, cf, cs, ci, ofAV, ofCV, ofSV, putP, Tr.get_upd, if_true, if_false, h6, h7, h9, h10]) (rfl) ?_
  refine opsP_op (args := [PA.int .i64 (.ofNat (j))]) (v := PA.int .i64 (.ofNat (j))) (by simp (decide := true) only [fetchP, evalP, ct, cf, cs, ci, ofAV, ofCV, ofSV, putP, Tr.get_upd, if_true, if_false, h6, h7, h9, h10]) (rfl) ?_
  refine opsP_op (args := [PA.int .i64 (.ofNat (i)), PA.int .i64 (.ofNat (j))]) (v := PA.int .i64 (.ofNat (i + j))) (by simp (decide := true) only [fetchP, evalP, ct, cf, cs, ci, ofAV, ofCV, ofSV, putP, Tr.get_upd, if_true, if_false, h6, h7, h9, h10]) (add_i64 (by omega)) ?_
  refine opsP_op (args := [PA.int .u64 (.ofNat (s))]) (v := PA.int .u64 (.ofNat (s))) (by simp (decide := true) only [fetchP, evalP, ct, cf, cs, ci, ofAV, ofCV, ofSV, putP, Tr.get_upd, if_true, if_false, h6, h7, h9, h10]) (rfl) ?_
  refine opsP_op (args := [PA.int .u64 (.ofNat (s)), PA.int .u64 (.ofNat 4294967296)]) (v := PA.int .u64 (.ofNat (s % 4294967296))) (by simp (decide := true) only [fetchP, evalP, ct, cf, cs, ci, ofAV, ofCV, ofSV, putP, Tr.get_upd, if_true, if_false, h6, h7, h9, h10]) (rem_u64) ?_
  refine opsP_op (args := [PA.int .u64 (.ofNat (s % 4294967296))]) (v := PA.v (.s (lim (s % 4294967296)))) (by simp (decide := true) only [fetchP, evalP, ct, cf, cs, ci, ofAV, ofCV, ofSV, putP, Tr.get_upd, if_true, if_false, h6, h7, h9, h10]) (conv_u32' s) ?_
  refine opsP_op (args := [PA.v (.s (.slice .h 0 L 1 (some L))), PA.int .i64 (.ofNat (i + j))]) (v := PA.v (.s (.ptr .h (i + j)))) (by simp (decide := true) only [fetchP, evalP, ct, cf, cs, ci, ofAV, ofCV, ofSV, putP, Tr.get_upd, if_true, if_false, h6, h7, h9, h10]) (isl_sl (by omega)) ?_
  refine opsP_op (args := [PA.v (.s (.ptr .h (i + j))), PA.v (.s (lim (s % 4294967296)))]) (v := PA.unit) (by simp (decide := true) only [fetchP, evalP, ct, cf, cs, ci, ofAV, ofCV, ofSV, putP, Tr.get_upd, if_true, if_false, h6, h7, h9, h10]) (store_h hh hlt) ?_
  rfl
theorem a_rc {call : PCaller} {s : Nat} {fr : PFr} {g : PHeap} (h10 : fr.get k10 = some (PA.int .u64 (.ofNat (s)))) (bs : s ≤ 18446744073709551615) :
    opsP call rc fr g = some ((putP (putP (putP fr (some k60) (PA.int .u64 (.ofNat (s)))) (some k61) (PA.int .u64 (.ofNat (s / 4294967296)))) (some k8) (PA.int .u64 (.ofNat (s / 4294967296)))), g) := by
  refine opsP_op (args := [PA.int .u64 (.ofNat (s))]) (v := PA.int .u64 (.ofNat (s))) (by simp (decide := true) only [fetchP, evalP, ct, cf, cs, ci, ofAV, ofCV, ofSV, putP, Tr.get_upd, if_true, if_false, h10]) (rfl) ?_
  refine opsP_op (args := [PA.int .u64 (.ofNat (s)), PA.int .u64 (.ofNat 4294967296)]) (v := PA.int .u64 (.ofNat (s / 4294967296))) (by simp (decide := true) only [fetchP, evalP, ct, cf, cs, ci, ofAV, ofCV, ofSV, putP, Tr.get_upd, if_true, if_false, h10]) (quo_u64 bs) ?_
  refine opsP_op (args := [PA.int .u64 (.ofNat (s / 4294967296))]) (v := PA.int .u64 (.ofNat (s / 4294967296))) (by simp (decide := true) only [fetchP, evalP, ct, cf, cs, ci, ofAV, ofCV, ofSV, putP, Tr.get_upd, if_true, if_false, h10]) (rfl) ?_
  rfl
theorem a_re {call : PCaller} {ys out : List Nat} {L i c : Nat} {fr : PFr} {g : PHeap} {log : List (Nat × Nat)} (h1 : fr.get k1 = some (limbs ys)) (h6 : fr.get k6 = some (PA.v (.s (.slice .h 0 L 1 (some L))))) (h7 : fr.get k7 = some (PA.int .i64 (.ofNat (i)))) (h8 : fr.get k8 = some (PA.int .u64 (.ofNat (c)))) (hh : g.get .h = some ⟨.cells (out.map lim), true, false, [], log⟩) (hlt : i + ys.length < out.length) (hL : out.length = L) (bl : L ≤ 9223372036854775807) :
    opsP call re fr g = some ((putP (putP (putP (putP (putP (putP (putP (putP (putP fr (some k62) (PA.v (.s (.slice .h 0 L 1 (some L))))) (some k63) (PA.int .i64 (.ofNat (i)))) (some k64) (limbs ys)) (some k65) (PA.int .i64 (.ofNat (ys.length)))) (some k66) (PA.int .i64 (.ofNat (i + ys.length)))) (some k67) (PA.int .u64 (.ofNat (c)))) (some k68) (PA.v (.s (lim (c % 4294967296))))) (some k69) (PA.v (.s (.ptr .h (i + ys.length))))) none (PA.unit)), put0 g (out.set (i + ys.length) (c % 4294967296)) ((i + ys.length, 1) :: log)) := by
  refine opsP_op (args := [PA.v (.s (.slice .h 0 L 1 (some L)))]) (v := PA.v (.s (.slice .h 0 L 1 (some L)))) (by simp (decide := true) only [fetchP, evalP, ct, cf, cs, ci, ofAV, ofCV, ofSV, putP, Tr.get_upd, if_true, if_false, h1, h6, h7, h8]) (rfl) ?_
  refine opsP_op (args := [PA.int .i64 (.ofNat (i))]) (v := PA.int .i64 (.ofNat (i))) (by simp (decide := true) only [fetchP, evalP, ct, cf, cs, ci, ofAV, ofCV, ofSV, putP, Tr.get_upd, if_true, if_false, h1, h6, h7, h8]) (rfl) ?_
  refine opsP_op (args := [limbs ys]) (v := limbs ys) (by simp (decide := true) only [fetchP, evalP, ct, cf, cs, ci, ofAV, ofCV, ofSV, putP, Tr.get_upd, if_true, if_false, h1, h6, h7, h8]) (rfl) ?_
  refine opsP_op (args := [limbs ys]) (v := PA.int .i64 (.ofNat (ys.length))) (by simp (decide := true) only [fetchP, evalP, ct, cf, cs, ci, ofAV, ofCV, ofSV, putP, Tr.get_upd, if_true, if_false, h1, h6, h7, h8]) (lens_lst) ?_
  refine opsP_op (args := [PA.int .i64 (.ofNat (i)), PA.int .i64 (.ofNat (ys.length))]) (v := PA.int .i64 (.ofNat (i + ys.length))) (by simp (decide := true) only [fetchP, evalP, ct, cf, cs, ci, ofAV, ofCV, ofSV, putP, Tr.get_upd, if_true, if_false, h1, h6, h7, h8]) (add_i64 (by omega)) ?_
  refine opsP_op (args := [PA.int .u64 (.ofNat (c))]) (v := PA.int .u64 (.ofNat (c))) (by simp (decide := true) only [fetchP, evalP, ct, cf, cs, ci, ofAV, ofCV, ofSV, putP, Tr.get_upd, if_true, if_false, h1, h6, h7, h8]) (rfl) ?_
  refine opsP_op (args := [PA.int .u64 (.ofNat (c))]) (v := PA.v (.s (lim (c % 4294967296)))) (by simp (decide := true) only [fetchP, evalP, ct, cf, cs, ci, ofAV, ofCV, ofSV, putP, Tr.get_upd, if_true, if_false, h1, h6, h7, h8]) (conv_u32 c) ?_
  refine opsP_op (args := [PA.v (.s (.slice .h 0 L 1 (some L))), PA.int .i64 (.ofNat (i + ys.length))]) (v := PA.v (.s (.ptr .h (i + ys.length)))) (by simp (decide := true) only [fetchP, evalP, ct, cf, cs, ci, ofAV, ofCV, ofSV, putP, Tr.get_upd, if_true, if_false, h1, h6, h7, h8]) (isl_sl (by omega)) ?_
  refine opsP_op (args := [PA.v (.s (.ptr .h (i + ys.length))), PA.v (.s (lim (c % 4294967296)))]) (v := PA.unit) (by simp (decide := true) only [fetchP, evalP, ct, cf, cs, ci, ofAV, ofCV, ofSV, putP, Tr.get_upd, if_true, if_false, h1, h6, h7, h8]) (store_h hh hlt) ?_
  rfl
theorem a_end {call : PCaller} {L : Nat} {r1 r2 : PV} {fr : PFr} {g : PHeap} {g' : PHeap} (h6 : fr.get k6 = some (PA.v (.s (.slice .h 0 L 1 (some L))))) (hc : call 37 [PA.v (.s (.slice .h 0 L 1 (some L)))] g = some (PA.tup [.s r1, .s r2], g')) :
    opsP call [m k70 k6,c k71 37 [(.t k70)],a k72 (.extract 0) k71,a k73 (.extract 1) k71,m k4 k72,m k5 k73] fr g = some ((putP (putP (putP (putP (putP (putP fr (some k70) (PA.v (.s (.slice .h 0 L 1 (some L))))) (some k71) (PA.tup [.s r1, .s r2])) (some k72) (PA.v (.s r1))) (some k73) (PA.v (.s r2))) (some k4) (PA.v (.s r1))) (some k5) (PA.v (.s r2))), g') := by
  refine opsP_op (args := [PA.v (.s (.slice .h 0 L 1 (some L)))]) (v := PA.v (.s (.slice .h 0 L 1 (some L)))) (by simp (decide := true) only [fetchP, evalP, ct, cf, cs, ci, ofAV, ofCV, ofSV, putP, Tr.get_upd, if_true, if_false, h6]) (rfl) ?_
  refine opsP_call (args := [PA.v (.s (.slice .h 0 L 1 (some L)))]) (v := PA.tup [.s r1, .s r2]) (by simp (decide := true) only [fetchP, evalP, ct, cf, cs, ci, ofAV, ofCV, ofSV, putP, Tr.get_upd, if_true, if_false, h6]) (hc) ?_
  refine opsP_op (args := [PA.tup [.s r1, .s r2]]) (v := PA.v (.s r1)) (by simp (decide := true) only [fetchP, evalP, ct, cf, cs, ci, ofAV, ofCV, ofSV, putP, Tr.get_upd, if_true, if_false, h6]) (rfl) ?_
  refine opsP_op (args := [PA.tup [.s r1, .s r2]]) (v := PA.v (.s r2)) (by simp (decide := true) only [fetchP, evalP, ct, cf, cs, ci, ofAV, ofCV, ofSV, putP, Tr.get_upd, if_true, if_false, h6]) (rfl) ?_
  refine opsP_op (args := [PA.v (.s r1)]) (v := PA.v (.s r1)) (by simp (decide := true) only [fetchP, evalP, ct, cf, cs, ci, ofAV, ofCV, ofSV, putP, Tr.get_upd, if_true, if_false, h6]) (rfl) ?_
  refine opsP_op (args := [PA.v (.s r2)]) (v := PA.v (.s r2)) (by simp (decide := true) only [fetchP, evalP, ct, cf, cs, ci, ofAV, ofCV, ofSV, putP, Tr.get_upd, if_true, if_false, h6]) (rfl) ?_
  rfl
theorem b_t {call : PCaller} {zs : List Nat} {i : Nat} {fr : PFr} {g : PHeap} (h0 : fr.get k0 = some (limbs zs)) (h1 : fr.get k1 = some (PA.int .i64 (.ofNat (i)))) :
    opsP call [m k5 k1,m k6 k0,a k7 (.lens) k6,bi k8 .lss (.t k5) (.t k7)] fr g = some ((putP (putP (putP (putP fr (some k5) (PA.int .i64 (.ofNat (i)))) (some k6) (limbs zs)) (some k7) (PA.int .i64 (.ofNat (zs.length)))) (some k8) (PA.bool (decide (i < zs.length)))), g) := by
  refine opsP_op (args := [PA.int .i64 (.ofNat (i))]) (v := PA.int .i64 (.ofNat (i))) (by simp (decide := true) only [fetchP, evalP, ct, cf, cs, ci, ofAV, ofCV, ofSV, putP, Tr.get_upd, if_true, if_false, h0, h1]) (rfl) ?_
  refine opsP_op (args := [limbs zs]) (v := limbs zs) (by simp (decide := true) only [fetchP, evalP, ct, cf, cs, ci, ofAV, ofCV, ofSV, putP, Tr.get_upd, if_true, if_false, h0, h1]) (rfl) ?_
  refine opsP_op (args := [limbs zs]) (v := PA.int .i64 (.ofNat (zs.length))) (by simp (decide := true) only [fetchP, evalP, ct, cf, cs, ci, ofAV, ofCV, ofSV, putP, Tr.get_upd, if_true, if_false, h0, h1]) (lens_lst) ?_
  refine opsP_op (args := [PA.int .i64 (.ofNat (i)), PA.int .i64 (.ofNat (zs.length))]) (v := PA.bool (decide (i < zs.length))) (by simp (decide := true) only [fetchP, evalP, ct, cf, cs, ci, ofAV, ofCV, ofSV, putP, Tr.get_upd, if_true, if_false, h0, h1]) (lss_i64) ?_
  rfl
theorem b_r {call : PCaller} {zs : List Nat} {i x : Nat} {fr : PFr} {g : PHeap} (h0 : fr.get k0 = some (limbs zs)) (h1 : fr.get k1 = some (PA.int .i64 (.ofNat (i)))) (hx : zs[i]? = some x) (bx : x < 4294967296) :
    opsP call [m k9 k0,m k10 k1,ix k11 1 k9 k10,l k12 k11,a k13 (.conv .u64) k12,m k4 k13] fr g = some ((putP (putP (putP (putP (putP (putP fr (some k9) (limbs zs)) (some k10) (PA.int .i64 (.ofNat (i)))) (some k11) (PA.v (.s (.rp [lim x])))) (some k12) (PA.v (.s (lim (x))))) (some k13) (PA.int .u64 (.ofNat (x)))) (some k4) (PA.int .u64 (.ofNat (x)))), g) := by
  refine opsP_op (args := [limbs zs]) (v := limbs zs) (by simp (decide := true) only [fetchP, evalP, ct, cf, cs, ci, ofAV, ofCV, ofSV, putP, Tr.get_upd, if_true, if_false, h0, h1]) (rfl) ?_
  refine opsP_op (args := [PA.int .i64 (.ofNat (i))]) (v := PA.int .i64 (.ofNat (i))) (by simp (decide := true) only [fetchP, evalP, ct, cf, cs, ci, ofAV, ofCV, ofSV, putP, Tr.get_upd, if_true, if_false, h0, h1]) (rfl) ?_
  refine opsP_op (args := [limbs zs, PA.int .i64 (.ofNat (i))]) (v := PA.v (.s (.rp [lim x]))) (by simp (decide := true) only [fetchP, evalP, ct, cf, cs, ci, ofAV, ofCV, ofSV, putP, Tr.get_upd, if_true, if_false, h0, h1]) (isl_lst hx) ?_
  refine opsP_op (args := [PA.v (.s (.rp [lim x]))]) (v := PA.v (.s (lim (x)))) (by simp (decide := true) only [fetchP, evalP, ct, cf, cs, ci, ofAV, ofCV, ofSV, putP, Tr.get_upd, if_true, if_false, h0, h1]) (rfl) ?_
  refine opsP_op (args := [PA.v (.s (lim (x)))]) (v := PA.int .u64 (.ofNat (x))) (by simp (decide := true) only [fetchP, evalP, ct, cf, cs, ci, ofAV, ofCV, ofSV, putP, Tr.get_upd, if_true, if_false, h0, h1]) (conv_u64 (by omega)) ?_
  refine opsP_op (args := [PA.int .u64 (.ofNat (x))]) (v := PA.int .u64 (.ofNat (x))) (by simp (decide := true) only [fetchP, evalP, ct, cf, cs, ci, ofAV, ofCV, ofSV, putP, Tr.get_upd, if_true, if_false, h0, h1]) (rfl) ?_
  rfl
theorem c_t {call : PCaller} {L i : Nat} {fr : PFr} {g : PHeap} (h0 : fr.get k0 = some (PA.v (.s (.slice .h 0 L 1 (some L))))) (h1 : fr.get k1 = some (PA.int .i64 (.ofNat (i)))) :
    opsP call [m k5 k1,m k6 k0,a k7 (.lens) k6,bi k8 .lss (.t k5) (.t k7)] fr g = some ((putP (putP (putP (putP fr (some k5) (PA.int .i64 (.ofNat (i)))) (some k6) (PA.v (.s (.slice .h 0 L 1 (some L))))) (some k7) (PA.int .i64 (.ofNat (L)))) (some k8) (PA.bool (decide (i < L)))), g) := by
  refine opsP_op (args := [PA.int .i64 (.ofNat (i))]) (v := PA.int .i64 (.ofNat (i))) (by simp (decide := true) only [fetchP, evalP, ct, cf, cs, ci, ofAV, ofCV, ofSV, putP, Tr.get_upd, if_true, if_false, h0, h1]) (rfl) ?_
  refine opsP_op (args := [PA.v (.s (.slice .h 0 L 1 (some L)))]) (v := PA.v (.s (.slice .h 0 L 1 (some L)))) (by simp (decide := true) only [fetchP, evalP, ct, cf, cs, ci, ofAV, ofCV, ofSV, putP, Tr.get_upd, if_true, if_false, h0, h1]) (rfl) ?_
  refine opsP_op (args := [PA.v (.s (.slice .h 0 L 1 (some L)))]) (v := PA.int .i64 (.ofNat (L))) (by simp (decide := true) only [fetchP, evalP, ct, cf, cs, ci, ofAV, ofCV, ofSV, putP, Tr.get_upd, if_true, if_false, h0, h1]) (rfl) ?_
  refine opsP_op (args := [PA.int .i64 (.ofNat (i)), PA.int .i64 (.ofNat (L))]) (v := PA.bool (decide (i < L))) (by simp (decide := true) only [fetchP, evalP, ct, cf, cs, ci, ofAV, ofCV, ofSV, putP, Tr.get_upd, if_true, if_false, h0, h1]) (lss_i64) ?_
  rfl
theorem c_r {call : PCaller} {out : List Nat} {L i z : Nat} {fr : PFr} {g : PHeap} {log : List (Nat × Nat)} (h0 : fr.get k0 = some (PA.v (.s (.slice .h 0 L 1 (some L))))) (h1 : fr.get k1 = some (PA.int .i64 (.ofNat (i)))) (hh : g.get .h = some ⟨.cells (out.map lim), true, false, [], log⟩) (hz : out[i]? = some z) (hL : i < L) (bz : z < 4294967296) :
    opsP call [m k9 k0,m k10 k1,ix k11 1 k9 k10,l k12 k11,a k13 (.conv .u64) k12,m k4 k13] fr g = some ((putP (putP (putP (putP (putP (putP fr (some k9) (PA.v (.s (.slice .h 0 L 1 (some L))))) (some k10) (PA.int .i64 (.ofNat (i)))) (some k11) (PA.v (.s (.ptr .h (i))))) (some k12) (PA.v (.s (lim (z))))) (some k13) (PA.int .u64 (.ofNat (z)))) (some k4) (PA.int .u64 (.ofNat (z)))), g) := by
  refine opsP_op (args := [PA.v (.s (.slice .h 0 L 1 (some L)))]) (v := PA.v (.s (.slice .h 0 L 1 (some L)))) (by simp (decide := true) only [fetchP, evalP, ct, cf, cs, ci, ofAV, ofCV, ofSV, putP, Tr.get_upd, if_true, if_false, h0, h1]) (rfl) ?_
  refine opsP_op (args := [PA.int .i64 (.ofNat (i))]) (v := PA.int .i64 (.ofNat (i))) (by simp (decide := true) only [fetchP, evalP, ct, cf, cs, ci, ofAV, ofCV, ofSV, putP, Tr.get_upd, if_true, if_false, h0, h1]) (rfl) ?_
  refine opsP_op (args := [PA.v (.s (.slice .h 0 L 1 (some L))), PA.int .i64 (.ofNat (i))]) (v := PA.v (.s (.ptr .h (i)))) (by simp (decide := true) only [fetchP, evalP, ct, cf, cs, ci, ofAV, ofCV, ofSV, putP, Tr.get_upd, if_true, if_false, h0, h1]) (isl_sl hL) ?_
  refine opsP_op (args := [PA.v (.s (.ptr .h (i)))]) (v := PA.v (.s (lim (z)))) (by simp (decide := true) only [fetchP, evalP, ct, cf, cs, ci, ofAV, ofCV, ofSV, putP, Tr.get_upd, if_true, if_false, h0, h1]) (load_h hh hz) ?_
  refine opsP_op (args := [PA.v (.s (lim (z)))]) (v := PA.int .u64 (.ofNat (z))) (by simp (decide := true) only [fetchP, evalP, ct, cf, cs, ci, ofAV, ofCV, ofSV, putP, Tr.get_upd, if_true, if_false, h0, h1]) (conv_u64 (by omega)) ?_
  refine opsP_op (args := [PA.int .u64 (.ofNat (z))]) (v := PA.int .u64 (.ofNat (z))) (by simp (decide := true) only [fetchP, evalP, ct, cf, cs, ci, ofAV, ofCV, ofSV, putP, Tr.get_upd, if_true, if_false, h0, h1]) (rfl) ?_
  rfl
end Go.Pv.M
end
section
namespace Go.Pv.M
open Go.Vm Go.Vm.C
open Go.Vm.Key (kn)
variable {F : Funcs} {K : Known}
theorem call_of_ev {f : Nat} {vf : VFunc} (hF : F f = some vf) (hp : K.pure f = false) {args : List PA} {g g' : PHeap} {fr' : PFr} (h : Ev F K vf.body (Tr.z.putFrom 0 args) g .ret fr' g') {l : List PC} (hr : resultsP fr' g' vf.results = some l) :
    ∃ n, ∀ m, n ≤ m → callP F K (execP F K m) f args g = some (oneOrTupP l, g') := by
  obtain ⟨n, h⟩ := h
  refine ⟨n, fun m hm => ?_⟩
  have e := execP_le hm _ _ _ _ h
  simp only [callP, hp, Bool.false_eq_true, if_false, bodyP, hF, e, hr]
theorem f36_body : C.f36 = ⟨[.tmp k4],.seq (.region [mc k4 (.c (.v (.s (.int .u64 (.ofNat 0)))))]) (.seq (.seq (.region [m k5 k1,m k6 k0,a k7 (.lens) k6,bi k8 .lss (.t k5) (.t k7)]) (.cond (.t k8) (.seq (.region [m k9 k0,m k10 k1,ix k11 1 k9 k10,l k12 k11,a k13 (.conv .u64) k12,m k4 k13]) (.ret)) (.skip))) (.seq (.region [mc k4 (.c (.v (.s (.int .u64 (.ofNat 0)))))]) (.ret)))⟩ := rfl
theorem limb_lst (hF : F 36 = some C.f36) (hp : K.pure 36 = false) {zs : List Nat} {i x : Nat} (hx : zs[i]? = some x) (bx : x < 4294967296) (g : PHeap) : ∃ n, ∀ m, n ≤ m → callP F K (execP F K m) 36 [limbs zs, PA.int .i64 (.ofNat i)] g = some (PA.int .u64 (.ofNat x), g) := by
  have hi := (List.getElem?_eq_some_iff.1 hx).1
  have p1 : ∃ fr1, Ev F K (.region [mc k4 (.c (.v (.s (.int .u64 (.ofNat 0)))))]) (Tr.z.putFrom 0 [limbs zs, PA.int .i64 (.ofNat i)]) g .normal fr1 g ∧ fr1.get k0 = some (limbs zs) ∧ fr1.get k1 = some (PA.int .i64 (.ofNat i)) := ⟨_, Ev.region fun _ => rfl, rfl, rfl⟩
  obtain ⟨fr1, e1, h0, h1⟩ := p1
  have p2 : ∃ fr2, Ev F K (.region [m k5 k1,m k6 k0,a k7 (.lens) k6,bi k8 .lss (.t k5) (.t k7)]) fr1 g .normal fr2 g ∧ evalP fr2 (.t k8) = some (PA.bool true) ∧ fr2.get k0 = some (limbs zs) ∧ fr2.get k1 = some (PA.int .i64 (.ofNat i)) := by
    refine ⟨_, Ev.region fun _ => b_t h0 h1, ?_, ?_, ?_⟩
    · simp only [evalP, putP, Tr.get_upd, if_true]; simp [hi]
    · (simp (decide := true) only [putP, Tr.get_upd, if_true, if_false] at h0 h1 ⊢; try (first | assumption | rfl))
    · (simp (decide := true) only [putP, Tr.get_upd, if_true, if_false] at h0 h1 ⊢; try (first | assumption | rfl))
  obtain ⟨fr2, e2, hc, h0, h1⟩ := p2
  have p3 : ∃ fr3, Ev F K (.region [m k9 k0,m k10 k1,ix k11 1 k9 k10,l k12 k11,a k13 (.conv .u64) k12,m k4 k13]) fr2 g .normal fr3 g ∧ fr3.get k4 = some (PA.int .u64 (.ofNat x)) := by
    refine ⟨_, Ev.region fun _ => b_r h0 h1 hx bx, ?_⟩
    simp only [putP, Tr.get_upd, if_true]
  obtain ⟨fr3, e3, r⟩ := p3
  exact call_of_ev hF hp (l := [.s (.int .u64 (.ofNat x))]) (by rw [f36_body]; exact Ev.seq e1 (Ev.seq_stop (Ev.seq e2 (Ev.cond_t hc (Ev.seq e3 Ev.ret))) (by simp))) (by
    rw [f36_body]; simp only [resultsP, resultP, r])
theorem limb_sl (hF : F 36 = some C.f36) (hp : K.pure 36 = false) {out : List Nat} {L i z : Nat} {g : PHeap} (hh : HCells out g) (hz : out[i]? = some z) (hL : out.length = L) (bz : z < 4294967296) : ∃ n, ∀ m, n ≤ m → callP F K (execP F K m) 36 [PA.v (.s (.slice .h 0 L 1 (some L))), PA.int .i64 (.ofNat i)] g = some (PA.int .u64 (.ofNat z), g) := by
  have hi := (List.getElem?_eq_some_iff.1 hz).1
  obtain ⟨log, hh⟩ := hh
  have p1 : ∃ fr1, Ev F K (.region [mc k4 (.c (.v (.s (.int .u64 (.ofNat 0)))))]) (Tr.z.putFrom 0 [PA.v (.s (.slice .h 0 L 1 (some L))), PA.int .i64 (.ofNat i)]) g .normal fr1 g ∧ fr1.get k0 = some (PA.v (.s (.slice .h 0 L 1 (some L)))) ∧ fr1.get k1 = some (PA.int .i64 (.ofNat i)) := ⟨_, Ev.region fun _ => rfl, rfl, rfl⟩
  obtain ⟨fr1, e1, h0, h1⟩ := p1
  have p2 : ∃ fr2, Ev F K (.region [m k5 k1,m k6 k0,a k7 (.lens) k6,bi k8 .lss (.t k5) (.t k7)]) fr1 g .normal fr2 g ∧ evalP fr2 (.t k8) = some (PA.bool true) ∧ fr2.get k0 = some (PA.v (.s (.slice .h 0 L 1 (some L)))) ∧ fr2.get k1 = some (PA.int .i64 (.ofNat i)) := by
    refine ⟨_, Ev.region fun _ => c_t h0 h1, ?_, ?_, ?_⟩
    · simp only [evalP, putP, Tr.get_upd, if_true]; simp; omega
    · (simp (decide := true) only [putP, Tr.get_upd, if_true, if_false] at h0 h1 ⊢; try (first | assumption | rfl))
    · (simp (decide := true) only [putP, Tr.get_upd, if_true, if_false] at h0 h1 ⊢; try (first | assumption | rfl))
  obtain ⟨fr2, e2, hc, h0, h1⟩ := p2
  have p3 : ∃ fr3, Ev F K (.region [m k9 k0,m k10 k1,ix k11 1 k9 k10,l k12 k11,a k13 (.conv .u64) k12,m k4 k13]) fr2 g .normal fr3 g ∧ fr3.get k4 = some (PA.int .u64 (.ofNat z)) := by
    refine ⟨_, Ev.region fun _ => c_r h0 h1 hh hz (by omega) bz, ?_⟩
    simp only [putP, Tr.get_upd, if_true]
  obtain ⟨fr3, e3, r⟩ := p3
  exact call_of_ev hF hp (l := [.s (.int .u64 (.ofNat z))]) (by rw [f36_body]; exact Ev.seq e1 (Ev.seq_stop (Ev.seq e2 (Ev.cond_t hc (Ev.seq e3 Ev.ret))) (by simp))) (by
    rw [f36_body]; simp only [resultsP, resultP, r])
structure Ta (xs ys : List Nat) (L i : Nat) (fr : PFr) : Prop where
  fa : fr.get k0 = some (limbs xs)
  fb : fr.get k1 = some (limbs ys)
  fo : fr.get k6 = some (PA.v (.s (.slice .h 0 L 1 (some L))))
  fi : fr.get k7 = some (PA.int .i64 (.ofNat i))
structure Tb (c j : Nat) (fr : PFr) : Prop where
  tc : fr.get k8 = some (PA.int .u64 (.ofNat c))
  tj : fr.get k9 = some (PA.int .i64 (.ofNat j))
def innerA : VCode := .seq (.seq (.region [m k31 k9,m k32 k1,a k33 (.lens) k32,bi k34 .lss (.t k31) (.t k33)]) (.cond (.t k34) (.skip) (.exit 2))) (.seq (.block 3 (.seq (.region ra) (.seq (.region rb) (.region rc)))) (.region [m k35 k9,bi k36 .add (.t k35) (ci 1),m k9 k36]))
theorem innerA_round (hF : F 36 = some C.f36) (hp : K.pure 36 = false) {xs ys out : List Nat} {L i j c x y z : Nat} {fr : PFr} {g : PHeap} (s : Ta xs ys L i fr) (t : Tb c j fr) (hh : HCells out g) (hj : j < ys.length)
    (hx : xs[i]? = some x) (hy : ys[j]? = some y) (hz : out[i + j]? = some z) (hL : out.length = L) (bx : x < 4294967296) (by' : y < 4294967296) (bz : z < 4294967296) (bc : c < 4294967296) (bl : L ≤ 9223372036854775807) :
    ∃ fr' g', Ev F K innerA fr g .normal fr' g' ∧ Ta xs ys L i fr' ∧ Tb ((c + (x * y + z)) / 4294967296) (j + 1) fr' ∧ HCells (out.set (i + j) ((c + (x * y + z)) % 4294967296)) g' := by
  have hlt := (List.getElem?_eq_some_iff.1 hz).1
  have hxy : x * y ≤ 18446744065119617025 := by
    have : x * y ≤ 4294967295 * 4294967295 := Nat.mul_le_mul (by omega) (by omega)
    omega
  obtain ⟨n1, q1⟩ := limb_lst (F := F) (K := K) hF hp hx bx g
  obtain ⟨n2, q2⟩ := limb_lst (F := F) (K := K) hF hp hy by' g
  obtain ⟨n3, q3⟩ := limb_sl (F := F) (K := K) hF hp hh hz hL bz
  obtain ⟨log, hh⟩ := hh
  obtain ⟨sa, sb, so, si⟩ := s
  obtain ⟨tc, tj⟩ := t
  have p1 : ∃ fr1, Ev F K (.region [m k31 k9,m k32 k1,a k33 (.lens) k32,bi k34 .lss (.t k31) (.t k33)]) fr g .normal fr1 g ∧ evalP fr1 (.t k34) = some (PA.bool true) ∧ Ta xs ys L i fr1 ∧ Tb c j fr1 := by
    refine ⟨_, Ev.region fun _ => a_it sb tj, ?_, ?_, ?_⟩
    · simp only [evalP, putP, Tr.get_upd, if_true]; simp [hj]
    · constructor <;> (simp (decide := true) only [putP, Tr.get_upd, if_true, if_false] at sa sb so si tc tj ⊢; try (first | assumption | rfl))
    · constructor <;> (simp (decide := true) only [putP, Tr.get_upd, if_true, if_false] at sa sb so si tc tj ⊢; try (first | assumption | rfl))
  obtain ⟨fr1, e1, hc1, ⟨sa, sb, so, si⟩, ⟨tc, tj⟩⟩ := p1
  have p2 : ∃ fr2, Ev F K (.region ra) fr1 g .normal fr2 g ∧ fr2.get k10 = some (PA.int .u64 (.ofNat (c + (x * y + z)))) ∧ Ta xs ys L i fr2 ∧ Tb c j fr2 := by
    refine ⟨_, Ev.region_call (n := max n1 (max n2 n3)) (a_ra sa sb so si tc tj bx by' bz bc (by omega) hxy (q1 _ (by omega)) (q2 _ (by omega)) (q3 _ (by omega))), ?_, ?_, ?_⟩
    · simp only [putP, Tr.get_upd, if_true]; rw [Nat.add_comm c]
    · constructor <;> (simp (decide := true) only [putP, Tr.get_upd, if_true, if_false] at sa sb so si tc tj ⊢; try (first | assumption | rfl))
    · constructor <;> (simp (decide := true) only [putP, Tr.get_upd, if_true, if_false] at sa sb so si tc tj ⊢; try (first | assumption | rfl))
  obtain ⟨fr2, e2, ts, ⟨sa, sb, so, si⟩, ⟨tc, tj⟩⟩ := p2
  have p3 : ∃ fr3, Ev F K (.region rb) fr2 g .normal fr3 (put0 g (out.set (i + j) ((c + (x * y + z)) % 4294967296)) ((i + j, 1) :: log)) ∧ fr3.get k10 = some (PA.int .u64 (.ofNat (c + (x * y + z)))) ∧ Ta xs ys L i fr3 ∧ Tb c j fr3 := by
    refine ⟨_, Ev.region fun _ => a_rb so si tj ts hh hlt hL bl, ?_, ?_, ?_⟩
    · (simp (decide := true) only [putP, Tr.get_upd, if_true, if_false] at sa sb so si tc tj ts ⊢; try (first | assumption | rfl))
    · constructor <;> (simp (decide := true) only [putP, Tr.get_upd, if_true, if_false] at sa sb so si tc tj ⊢; try (first | assumption | rfl))
    · constructor <;> (simp (decide := true) only [putP, Tr.get_upd, if_true, if_false] at sa sb so si tc tj ⊢; try (first | assumption | rfl))
  obtain ⟨fr3, e3, ts, ⟨sa, sb, so, si⟩, ⟨tc, tj⟩⟩ := p3
  have p4 : ∃ fr4, Ev F K (.region rc) fr3 (put0 g (out.set (i + j) ((c + (x * y + z)) % 4294967296)) ((i + j, 1) :: log)) .normal fr4 (put0 g (out.set (i + j) ((c + (x * y + z)) % 4294967296)) ((i + j, 1) :: log)) ∧ Ta xs ys L i fr4 ∧ Tb ((c + (x * y + z)) / 4294967296) j fr4 := by
    refine ⟨_, Ev.region fun _ => a_rc ts (by omega), ?_, ?_⟩
    · constructor <;> (simp (decide := true) only [putP, Tr.get_upd, if_true, if_false] at sa sb so si tc tj ⊢; try (first | assumption | rfl))
    · constructor <;> (simp (decide := true) only [putP, Tr.get_upd, if_true, if_false] at sa sb so si tc tj ⊢; try (first | assumption | rfl))
  obtain ⟨fr4, e4, ⟨sa, sb, so, si⟩, ⟨tc, tj⟩⟩ := p4
  have p5 : ∃ fr5, Ev F K (.region [m k35 k9,bi k36 .add (.t k35) (ci 1),m k9 k36]) fr4 (put0 g (out.set (i + j) ((c + (x * y + z)) % 4294967296)) ((i + j, 1) :: log)) .normal fr5 (put0 g (out.set (i + j) ((c + (x * y + z)) % 4294967296)) ((i + j, 1) :: log)) ∧ Ta xs ys L i fr5 ∧ Tb ((c + (x * y + z)) / 4294967296) (j + 1) fr5 := by
    refine ⟨_, Ev.region fun _ => a_ii tj (by omega), ?_, ?_⟩
    · constructor <;> (simp (decide := true) only [putP, Tr.get_upd, if_true, if_false] at sa sb so si tc tj ⊢; try (first | assumption | rfl))
    · constructor <;> (simp (decide := true) only [putP, Tr.get_upd, if_true, if_false] at sa sb so si tc tj ⊢; try (first | assumption | rfl))
  obtain ⟨fr5, e5, s5, t5⟩ := p5
  exact ⟨fr5, _, Ev.seq (Ev.seq e1 (Ev.cond_t hc1 Ev.skip)) (Ev.seq (Ev.block 3 (Ev.seq e2 (Ev.seq e3 e4))) e5), s5, t5, ⟨_, put0_get _ _ _⟩⟩
theorem innerA_last {xs ys : List Nat} {L i c : Nat} {fr : PFr} {g : PHeap} (s : Ta xs ys L i fr) (t : Tb c ys.length fr) : ∃ fr', Ev F K innerA fr g (.exit 2) fr' g ∧ Ta xs ys L i fr' ∧ Tb c ys.length fr' := by
  obtain ⟨sa, sb, so, si⟩ := s
  obtain ⟨tc, tj⟩ := t
  refine ⟨_, Ev.seq_stop (Ev.seq (Ev.region fun _ => a_it sb tj) (Ev.cond_f ?_ (Ev.exit 2))) (by simp), ?_, ?_⟩
  · simp only [evalP, putP, Tr.get_upd, if_true]; simp
  · constructor <;> (simp (decide := true) only [putP, Tr.get_upd, if_true, if_false] at sa sb so si tc tj ⊢; try (first | assumption | rfl))
  · constructor <;> (simp (decide := true) only [putP, Tr.get_upd, if_true, if_false] at sa sb so si tc tj ⊢; try (first | assumption | rfl))
theorem innerA_all (hF : F 36 = some C.f36) (hp : K.pure 36 = false) {xs ys out : List Nat} {L i : Nat} {fr : PFr} {g : PHeap} (s : Ta xs ys L i fr) (t : Tb 0 0 fr) (hh : HCells out g) (hi : i < xs.length) (hL : out.length = L) (hlen : i + ys.length ≤ L) (hx : Lim xs) (hy : Lim ys) (ho : Lim out) (bl : L ≤ 9223372036854775807) :
    ∃ fr' g', Ev F K (.block 2 (.loop innerA)) fr g .normal fr' g' ∧ Ta xs ys L i fr' ∧ Tb (stepIn (xs.getD i 0) i ys ys.length (out, 0)).2 ys.length fr' ∧ HCells (stepIn (xs.getD i 0) i ys ys.length (out, 0)).1 g' := by
  have := Ev.loop_up (F := F) (K := K) (a := innerA) (x := .exit 2) (n := ys.length) (by simp)
    (I := fun j fr g => Ta xs ys L i fr ∧ Tb (stepIn (xs.getD i 0) i ys j (out, 0)).2 j fr ∧ HCells (stepIn (xs.getD i 0) i ys j (out, 0)).1 g)
    (Q := fun fr g => Ta xs ys L i fr ∧ Tb (stepIn (xs.getD i 0) i ys ys.length (out, 0)).2 ys.length fr ∧ HCells (stepIn (xs.getD i 0) i ys ys.length (out, 0)).1 g)
    (fun j fr g hj h => by
      obtain ⟨h1, h2, h3⟩ := h
      obtain ⟨a1, a2, a3⟩ := stepIn_ok (i := i) (hx.getD i) hy j (p := (out, 0)) ho (by show 0 < 4294967296; decide)
      simp only at a3
      obtain ⟨fr', g', e1, e2, e3, e4⟩ := innerA_round (F := F) (K := K) hF hp h1 h2 h3 hj (getD_some hi) (getD_some hj) (getD_some (l := (stepIn (xs.getD i 0) i ys j (out, 0)).1) (i := i + j) (by rw [a3]; omega)) (by rw [a3, hL]) (hx.getD i) (hy.getD j) (a1.getD (i + j)) a2 bl
      exact ⟨fr', g', e1, e2, e3, e4⟩)
    (fun fr g h => by
      obtain ⟨h1, h2, h3⟩ := h
      obtain ⟨fr', e1, e2, e3⟩ := innerA_last (F := F) (K := K) (g := g) h1 h2
      exact ⟨fr', g, e1, e2, e3, h3⟩) ys.length 0 (by omega) fr g ⟨s, t, hh⟩
  obtain ⟨fr', g', e1, e2, e3, e4⟩ := this
  exact ⟨fr', g', Ev.block_exit 2 e1, e2, e3, e4⟩
def outerA : VCode := .seq (.seq (.region [m k25 k7,m k26 k0,a k27 (.lens) k26,bi k28 .lss (.t k25) (.t k27)]) (.cond (.t k28) (.skip) (.exit 0))) (.seq (.block 1 (.seq (.region [mc k8 (.c (.v (.s (.int .u64 (.ofNat 0)))))]) (.seq (.seq (.region [mc k9 (ci 0)]) (.block 2 (.loop innerA))) (.region re)))) (.region [m k29 k7,bi k30 .add (.t k29) (ci 1),m k7 k30]))
theorem outerA_round (hF : F 36 = some C.f36) (hp : K.pure 36 = false) {xs ys out : List Nat} {L i : Nat} {fr : PFr} {g : PHeap} (s : Ta xs ys L i fr) (hh : HCells out g) (hi : i < xs.length) (hL : out.length = L) (hlen : xs.length + ys.length ≤ L) (hx : Lim xs) (hy : Lim ys) (ho : Lim out) (bl : L ≤ 9223372036854775807) :
    ∃ fr' g', Ev F K outerA fr g .normal fr' g' ∧ Ta xs ys L (i + 1) fr' ∧ HCells ((stepIn (xs.getD i 0) i ys ys.length (out, 0)).1.set (i + ys.length) ((stepIn (xs.getD i 0) i ys ys.length (out, 0)).2 % 4294967296)) g' := by
  obtain ⟨sa, sb, so, si⟩ := s
  have p1 : ∃ fr1, Ev F K (.region [m k25 k7,m k26 k0,a k27 (.lens) k26,bi k28 .lss (.t k25) (.t k27)]) fr g .normal fr1 g ∧ evalP fr1 (.t k28) = some (PA.bool true) ∧ Ta xs ys L i fr1 := by
    refine ⟨_, Ev.region fun _ => a_ot sa si, ?_, ?_⟩
    · simp only [evalP, putP, Tr.get_upd, if_true]; simp [hi]
    · constructor <;> (simp (decide := true) only [putP, Tr.get_upd, if_true, if_false] at sa sb so si ⊢; try (first | assumption | rfl))
  obtain ⟨fr1, e1, hc1, ⟨sa, sb, so, si⟩⟩ := p1
  have p2 : ∃ fr2, Ev F K (.region [mc k8 (.c (.v (.s (.int .u64 (.ofNat 0)))))]) fr1 g .normal fr2 g ∧ Ta xs ys L i fr2 ∧ fr2.get k8 = some (PA.int .u64 (.ofNat 0)) := by
    refine ⟨putP fr1 (some k8) (PA.int .u64 (.ofNat 0)), Ev.region fun _ => rfl, ?_, ?_⟩
    · constructor <;> (simp (decide := true) only [putP, Tr.get_upd, if_true, if_false] at sa sb so si ⊢; try (first | assumption | rfl))
    · simp only [putP, Tr.get_upd, if_true]
  obtain ⟨fr2, e2, ⟨sa, sb, so, si⟩, tc⟩ := p2
  have p3 : ∃ fr3, Ev F K (.region [mc k9 (ci 0)]) fr2 g .normal fr3 g ∧ Ta xs ys L i fr3 ∧ Tb 0 0 fr3 := by
    refine ⟨putP fr2 (some k9) (PA.int .i64 (.ofNat 0)), Ev.region fun _ => rfl, ?_, ?_⟩
    · constructor <;> (simp (decide := true) only [putP, Tr.get_upd, if_true, if_false] at sa sb so si tc ⊢; try (first | assumption | rfl))
    · constructor <;> (simp (decide := true) only [putP, Tr.get_upd, if_true, if_false] at sa sb so si tc ⊢; try (first | assumption | rfl))
  obtain ⟨fr3, e3, s3, t3⟩ := p3
  obtain ⟨fr4, g4, e4, ⟨sa, sb, so, si⟩, ⟨tc, tj⟩, hh4⟩ := innerA_all (F := F) (K := K) hF hp s3 t3 hh hi hL (by omega) hx hy ho bl
  obtain ⟨a1, a2, a3⟩ := stepIn_ok (i := i) (hx.getD i) hy ys.length (p := (out, 0)) ho (by show 0 < 4294967296; decide)
  simp only at a3
  obtain ⟨log, hh4⟩ := hh4
  have p5 : ∃ fr5, Ev F K (.region re) fr4 g4 .normal fr5 (put0 g4 ((stepIn (xs.getD i 0) i ys ys.length (out, 0)).1.set (i + ys.length) ((stepIn (xs.getD i 0) i ys ys.length (out, 0)).2 % 4294967296)) ((i + ys.length, 1) :: log)) ∧ Ta xs ys L i fr5 := by
    refine ⟨_, Ev.region fun _ => a_re sb so si tc hh4 (by rw [a3]; omega) (by rw [a3, hL]) bl, ?_⟩
    constructor <;> (simp (decide := true) only [putP, Tr.get_upd, if_true, if_false] at sa sb so si ⊢; try (first | assumption | rfl))
  obtain ⟨fr5, e5, ⟨sa, sb, so, si⟩⟩ := p5
  have p6 : ∃ fr6, Ev F K (.region [m k29 k7,bi k30 .add (.t k29) (ci 1),m k7 k30]) fr5 (put0 g4 ((stepIn (xs.getD i 0) i ys ys.length (out, 0)).1.set (i + ys.length) ((stepIn (xs.getD i 0) i ys ys.length (out, 0)).2 % 4294967296)) ((i + ys.length, 1) :: log)) .normal fr6 (put0 g4 ((stepIn (xs.getD i 0) i ys ys.length (out, 0)).1.set (i + ys.length) ((stepIn (xs.getD i 0) i ys ys.length (out, 0)).2 % 4294967296)) ((i + ys.length, 1) :: log)) ∧ Ta xs ys L (i + 1) fr6 := by
    refine ⟨_, Ev.region fun _ => a_oi si (by omega), ?_⟩
    constructor <;> (simp (decide := true) only [putP, Tr.get_upd, if_true, if_false] at sa sb so si ⊢; try (first | assumption | rfl))
  obtain ⟨fr6, e6, s6⟩ := p6
  exact ⟨fr6, _, Ev.seq (Ev.seq e1 (Ev.cond_t hc1 Ev.skip)) (Ev.seq (Ev.block 1 (Ev.seq e2 (Ev.seq (Ev.seq e3 e4) e5))) e6), s6, ⟨_, put0_get _ _ _⟩⟩
theorem outerA_last {xs ys : List Nat} {L : Nat} {fr : PFr} {g : PHeap} (s : Ta xs ys L xs.length fr) : ∃ fr', Ev F K outerA fr g (.exit 0) fr' g ∧ Ta xs ys L xs.length fr' := by
  obtain ⟨sa, sb, so, si⟩ := s
  refine ⟨_, Ev.seq_stop (Ev.seq (Ev.region fun _ => a_ot sa si) (Ev.cond_f ?_ (Ev.exit 0))) (by simp), ?_⟩
  · simp only [evalP, putP, Tr.get_upd, if_true]; simp
  · constructor <;> (simp (decide := true) only [putP, Tr.get_upd, if_true, if_false] at sa sb so si ⊢; try (first | assumption | rfl))
theorem outerA_all (hF : F 36 = some C.f36) (hp : K.pure 36 = false) {xs ys out : List Nat} {L : Nat} {fr : PFr} {g : PHeap} (s : Ta xs ys L 0 fr) (hh : HCells out g) (hL : out.length = L) (hlen : xs.length + ys.length ≤ L) (hx : Lim xs) (hy : Lim ys) (ho : Lim out) (bl : L ≤ 9223372036854775807) :
    ∃ fr' g', Ev F K (.block 0 (.loop outerA)) fr g .normal fr' g' ∧ Ta xs ys L xs.length fr' ∧ HCells (rows xs ys xs.length out) g' := by
  have := Ev.loop_up (F := F) (K := K) (a := outerA) (x := .exit 0) (n := xs.length) (by simp)
    (I := fun i fr g => Ta xs ys L i fr ∧ HCells (rows xs ys i out) g)
    (Q := fun fr g => Ta xs ys L xs.length fr ∧ HCells (rows xs ys xs.length out) g)
    (fun i fr g hi h => by
      obtain ⟨h1, h2⟩ := h
      obtain ⟨a1, a2⟩ := rows_ok hx hy i ho
      obtain ⟨fr', g', e1, e2, e3⟩ := outerA_round (F := F) (K := K) hF hp h1 h2 hi (by rw [a2, hL]) hlen hx hy a1 bl
      exact ⟨fr', g', e1, e2, e3⟩)
    (fun fr g h => by
      obtain ⟨h1, h2⟩ := h
      obtain ⟨fr', e1, e2⟩ := outerA_last (F := F) (K := K) (g := g) h1
      exact ⟨fr', g, e1, e2, h2⟩) xs.length 0 (by omega) fr g ⟨s, hh⟩
  obtain ⟨fr', g', e1, e2, e3⟩ := this
  exact ⟨fr', g', Ev.block_exit 0 e1, e2, e3⟩
def hd1 : List VOper := [m k11 k0,c k12 35 [(.t k11)],a k13 (.un .not) k12,m k14 k13,⟨(some k15),.op (.mov),[(.t k1)],(some (k14,false))⟩,⟨(some k16),.call 35,[(.t k15)],(some (k14,false))⟩,⟨(some k17),.op (.un .not),[(.t k16)],(some (k14,false))⟩,o k18 (.pick) [(.t k14),ct,(.t k17)]]
def hd2 : List VOper := [m k19 k0,a k20 (.lens) k19,m k21 k1,a k22 (.lens) k21,bi k23 .add (.t k20) (.t k22),o k24 (.mkslice 1 4 [(.int .u32 (.ofNat 0))]) [(.t k23),(.t k23)],m k6 k24]
def hd3 : List VOper := [m k70 k6,c k71 37 [(.t k70)],a k72 (.extract 0) k71,a k73 (.extract 1) k71,m k4 k72,m k5 k73]
theorem f11_body : C.f11 = ⟨[.tmp k4,.tmp k5],.seq (.region [mc k4 cs,mc k5 (ci 0)]) (.seq (.seq (.region hd1) (.cond (.t k18) (.seq (.region [mc k4 cs,mc k5 (ci 1)]) (.ret)) (.skip)))
  (.seq (.region hd2) (.seq (.seq (.region [mc k7 (ci 0)]) (.block 0 (.loop outerA))) (.seq (.region hd3) (.ret)))))⟩ := rfl
theorem mulA_run {xs ys : List Nat} {r1 r2 : PV} (hF : F 11 = some C.f11) (hF36 : F 36 = some C.f36) (hp36 : K.pure 36 = false) (hp : K.pure 35 = true) (hv : K.ans 35 [limbs xs] = some (PA.bool true)) (hw : K.ans 35 [limbs ys] = some (PA.bool true)) (hp' : K.pure 37 = true)
    (ht : K.ans 37 [limbs (rows xs ys xs.length (List.replicate (xs.length + ys.length) 0))] = some (PA.tup [.s r1, .s r2])) (hr : ∀ g, frzA deep (PA.tup [.s r1, .s r2]) g = some (PA.tup [.s r1, .s r2], g))
    (hx : Lim xs) (hy : Lim ys) (hne : xs.length + ys.length ≠ 0) (hl : xs.length + ys.length ≤ 1000000) : ∃ n, runP F K n 11 [limbs xs, limbs ys] = some (PA.tup [.s r1, .s r2]) := by
  have hcall : ∀ (zs : List Nat) (n : Nat) (g : PHeap), K.ans 35 [limbs zs] = some (PA.bool true) → callP F K (execP F K n) 35 [limbs zs] g = some (PA.bool true, g) := by
    intro zs n g h
    simp only [callP, hp, if_true, frz_lst, h]
  have p1 : ∃ fr1, Ev F K (.region [mc k4 cs,mc k5 (ci 0)]) (Tr.z.putFrom 0 [limbs xs, limbs ys]) .empty .normal fr1 .empty ∧ fr1.get k0 = some (limbs xs) ∧ fr1.get k1 = some (limbs ys) := ⟨_, Ev.region fun _ => rfl, rfl, rfl⟩
  obtain ⟨fr1, e1, h0, h1⟩ := p1
  have p2 : ∃ fr2, Ev F K (.region hd1) fr1 .empty .normal fr2 .empty ∧ evalP fr2 (.t k18) = some (PA.bool false) ∧ fr2.get k0 = some (limbs xs) ∧ fr2.get k1 = some (limbs ys) := by
    refine ⟨_, Ev.region_call (n := 0) (a_head h0 h1 (fun g => hcall xs 0 g hv) (fun g => hcall ys 0 g hw)), ?_, ?_, ?_⟩
    · simp only [evalP, putP, Tr.get_upd, if_true]
    · (simp (decide := true) only [putP, Tr.get_upd, if_true, if_false] at h0 h1 ⊢; try (first | assumption | rfl))
    · (simp (decide := true) only [putP, Tr.get_upd, if_true, if_false] at h0 h1 ⊢; try (first | assumption | rfl))
  obtain ⟨fr2, e2, hc, h0, h1⟩ := p2
  have p3 : ∃ fr3 g3, Ev F K (.region hd2) fr2 .empty .normal fr3 g3 ∧ fr3.get k0 = some (limbs xs) ∧ fr3.get k1 = some (limbs ys) ∧ fr3.get k6 = some (PA.v (.s (.slice .h 0 (xs.length + ys.length) 1 (some (xs.length + ys.length))))) ∧ HCells (List.replicate (xs.length + ys.length) 0) g3 := by
    refine ⟨_, _, Ev.region fun _ => a_make h0 h1 hl, ?_, ?_, ?_, ⟨[], ?_⟩⟩
    · (simp (decide := true) only [putP, Tr.get_upd, if_true, if_false] at h0 h1 ⊢; try (first | assumption | rfl))
    · (simp (decide := true) only [putP, Tr.get_upd, if_true, if_false] at h0 h1 ⊢; try (first | assumption | rfl))
    · simp only [putP, Tr.get_upd, if_true]; rfl
    · rfl
  obtain ⟨fr3, g3, e3, h0, h1, h6, hh⟩ := p3
  have p4 : ∃ fr4, Ev F K (.region [mc k7 (ci 0)]) fr3 g3 .normal fr4 g3 ∧ Ta xs ys (xs.length + ys.length) 0 fr4 := by
    refine ⟨putP fr3 (some k7) (PA.int .i64 (.ofNat 0)), Ev.region fun _ => rfl, ?_⟩
    constructor <;> (simp (decide := true) only [putP, Tr.get_upd, if_true, if_false] at h0 h1 h6 ⊢; try (first | assumption | rfl))
  obtain ⟨fr4, e4, s4⟩ := p4
  have hlim : Lim (List.replicate (xs.length + ys.length) 0) := fun n hn => by rw [(List.mem_replicate.1 hn).2]; decide
  obtain ⟨fr5, g5, e5, s5, hh5⟩ := outerA_all (F := F) (K := K) hF36 hp36 s4 hh (by simp) (Nat.le_refl _) hx hy hlim (by omega)
  have hlen : (rows xs ys xs.length (List.replicate (xs.length + ys.length) 0)).length = xs.length + ys.length := by rw [(rows_ok hx hy _ hlim).2]; simp
  obtain ⟨g6, hg6⟩ := frz_out hh5 hlen hne
  have hc37 : ∀ n, callP F K (execP F K n) 37 [PA.v (.s (.slice .h 0 (xs.length + ys.length) 1 (some (xs.length + ys.length))))] g5 = some (PA.tup [.s r1, .s r2], g6) := by
    intro n
    simp only [callP, hp', if_true, hg6, ht]
  have p6 : ∃ fr6, Ev F K (.region hd3) fr5 g5 .normal fr6 g6 ∧ fr6.get k4 = some (PA.v (.s r1)) ∧ fr6.get k5 = some (PA.v (.s r2)) := by
    refine ⟨_, Ev.region_call (n := 0) (a_end s5.fo (hc37 0)), ?_, ?_⟩
    · simp only [putP, Tr.get_upd, C.k4, C.k5, Key.o.injEq, Key.i.injEq, reduceCtorEq, if_true, if_false]
    · simp only [putP, Tr.get_upd, if_true]
  obtain ⟨fr6, e6, r4, r5⟩ := p6
  obtain ⟨n, e⟩ := Ev.seq e1 (Ev.seq (Ev.seq e2 (Ev.cond_f hc Ev.skip)) (Ev.seq e3 (Ev.seq (Ev.seq e4 e5) (Ev.seq e6 Ev.ret))))
  refine ⟨n, ?_⟩
  have hbody : bodyP F (execP F K n) 11 [limbs xs, limbs ys] .empty = some (PA.tup [.s r1, .s r2], g6) := by
    have e' : execP F K n C.f11.body (Tr.z.putFrom 0 [limbs xs, limbs ys]) .empty = some (.ret, fr6, g6) := by rw [f11_body]; exact e
    have hres : resultsP fr6 g6 C.f11.results = some [.s r1, .s r2] := by
      have : C.f11.results = [.tmp k4, .tmp k5] := rfl
      rw [this]
      simp only [resultsP, resultP, r4, r5]
    simp only [bodyP, hF, e', hres]
    rfl
  simp only [runP, aloneP, hbody, hr]
end Go.Pv.M
end
section
namespace Go.Pv.M
open Go.Vm Go.Pv.K
def X (m : Nat) : List Nat := List.replicate m 0 ++ [1]
theorem X_len (m : Nat) : (X m).length = m + 1 := by simp [X]
theorem X_lim (m : Nat) : Lim (X m) := by
  intro n hn
  rcases List.mem_append.1 hn with h | h
  · rw [(List.mem_replicate.1 h).2]; decide
  · rw [List.mem_singleton.1 h]; decide
theorem X_lo {m j : Nat} (h : j < m) : (X m).getD j 0 = 0 := by
  simp only [X, List.getD_eq_getElem?_getD]
  rw [List.getElem?_append_left (by simpa using h)]
  simp [h]
theorem X_hi (m : Nat) : (X m).getD m 0 = 1 := by
  simp [X, List.getD_eq_getElem?_getD]
theorem set_zero (n i : Nat) : (List.replicate n 0).set i 0 = List.replicate n 0 := by
  apply List.ext_getElem?
  intro j
  by_cases h : i = j
  · subst h
    by_cases hi : i < n
    · simp [hi]
    · simp [hi]
  · rw [List.getElem?_set_ne h]
theorem getD_rep (n i : Nat) : (List.replicate n 0).getD i 0 = 0 := by
  simp only [List.getD_eq_getElem?_getD]
  by_cases h : i < n
  · simp [h]
  · simp [h]
theorem stepIn_zero (n i : Nat) (ys : List Nat) : ∀ j, stepIn 0 i ys j (List.replicate n 0, 0) = (List.replicate n 0, 0)
  | 0 => rfl
  | j + 1 => by simp only [stepIn, stepIn_zero n i ys j, Nat.zero_mul, getD_rep, Nat.zero_mod, Nat.zero_div, Nat.add_zero, set_zero]
theorem rows_zero (m n : Nat) (ys : List Nat) : ∀ i, i ≤ m → rows (X m) ys i (List.replicate n 0) = List.replicate n 0
  | 0, _ => rfl
  | i + 1, h => by simp only [rows, rows_zero m n ys i (by omega), X_lo (show i < m by omega), stepIn_zero, Nat.zero_mod, set_zero]
theorem stepIn_one (m n i : Nat) : ∀ j, j ≤ m → stepIn 1 i (X m) j (List.replicate n 0, 0) = (List.replicate n 0, 0)
  | 0, _ => rfl
  | j + 1, h => by simp only [stepIn, stepIn_one m n i j (by omega), X_lo (show j < m by omega), Nat.mul_zero, getD_rep, Nat.zero_mod, Nat.zero_div, Nat.add_zero, set_zero]
theorem set_last (m : Nat) : ((List.replicate (2 * m + 2) 0).set (m + m) 1).set (m + (m + 1)) 0 = List.replicate (2 * m) 0 ++ [1, 0] := by
  have e : List.replicate (2 * m + 2) 0 = List.replicate (2 * m) 0 ++ [0, 0] := (List.replicate_append_replicate (n := 2 * m) (m := 2) (a := 0)).symm
  rw [e, List.set_append_right _ _ (by simp; omega), List.set_append_right _ _ (by simp; omega)]
  simp only [List.length_replicate]
  rw [show m + m - 2 * m = 0 by omega, show m + (m + 1) - 2 * m = 1 by omega]
  rfl
theorem rows_sq (m : Nat) : rows (X m) (X m) (X m).length (List.replicate ((X m).length + (X m).length) 0) = List.replicate (2 * m) 0 ++ [1, 0] := by
  rw [X_len, show m + 1 + (m + 1) = 2 * m + 2 by omega]
  simp only [rows, rows_zero m _ _ m (Nat.le_refl _), X_hi, X_len, stepIn, stepIn_one m _ m m (Nat.le_refl _), getD_rep]
  exact set_last m
variable {F : Funcs} {pure : Tr Bool} {tab : Tr Ent}
noncomputable def says (K : Known) (f : Nat) (x r : PA) : Bool := if K.pure f then (match K.ans f [x] with | some v => eqA v r | none => false) else false
theorem says_t {K : Known} {f : Nat} {x r : PA} (h : says K f x r = true) : K.pure f = true ∧ K.ans f [x] = some r := by
  unfold says at h
  split at h
  next hp =>
    split at h
    next v hv => rw [eqA_t h] at hv; exact ⟨hp, hv⟩
    next => cases h
  next => cases h
theorem sq73 (hT : TabOk F tab) (hF : F 73 = some C.f73) (m : Nat) (hm : m ≤ 400000) {w : PA} {r1 r2 : PV} (hw : eqA w (limbs (X m)) = true) (hv : says (known pure tab) 39 w (PA.bool true) = true)
    (ht : says (known pure tab) 59 (limbs (List.replicate (2 * m) 0 ++ [1, 0])) (PA.tup [.s r1, .s r2]) = true) (hr : ∀ g, frzA deep (PA.tup [.s r1, .s r2]) g = some (PA.tup [.s r1, .s r2], g)) : AloneOk F 73 [w, w] (PA.tup [.s r1, .s r2]) := by
  cases eqA_t hw
  obtain ⟨p1, a1⟩ := says_t hv
  obtain ⟨p2, a2⟩ := says_t ht
  rw [← rows_sq] at a2
  obtain ⟨n, e⟩ := mul_run hF p1 a1 a1 p2 a2 hr (X_lim m) (X_lim m) (by rw [X_len]; omega) (by rw [X_len]; omega)
  exact run_ok (known_ok hT) e
theorem sq11 (hT : TabOk F tab) (hF : F 11 = some C.f11) (hF36 : F 36 = some C.f36) (hp36 : (known pure tab).pure 36 = false) (m : Nat) (hm : m ≤ 400000) {w : PA} {r1 r2 : PV} (hw : eqA w (limbs (X m)) = true) (hv : says (known pure tab) 35 w (PA.bool true) = true)
    (ht : says (known pure tab) 37 (limbs (List.replicate (2 * m) 0 ++ [1, 0])) (PA.tup [.s r1, .s r2]) = true) (hr : ∀ g, frzA deep (PA.tup [.s r1, .s r2]) g = some (PA.tup [.s r1, .s r2], g)) : AloneOk F 11 [w, w] (PA.tup [.s r1, .s r2]) := by
  cases eqA_t hw
  obtain ⟨p1, a1⟩ := says_t hv
  obtain ⟨p2, a2⟩ := says_t ht
  rw [← rows_sq] at a2
  obtain ⟨n, e⟩ := mulA_run hF hF36 hp36 p1 a1 a1 p2 a2 hr (X_lim m) (X_lim m) (by rw [X_len]; omega) (by rw [X_len]; omega)
  exact run_ok (known_ok hT) e
end Go.Pv.M
end

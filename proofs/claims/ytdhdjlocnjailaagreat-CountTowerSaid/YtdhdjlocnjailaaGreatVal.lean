/- A part of the proof that the law CountTower answers true. No condition. -/
import Derived.Test.YtdhdjlocnjailaaGreatBase
import Derived.Test.YtdhdjlocnjailaaGreatVmb
set_option linter.unusedVariables false
set_option linter.unusedSimpArgs false
set_option linter.unusedSectionVars false
section
namespace Go.Pv
open Go.Vm
open Go.Vm.Key (kn)
abbrev ZM := Key → Option Body
abbrev Ren := Key → Option Key
def InZ (Z : ZM) (b : Key) (o n : Nat) (f : Nat → SV) : Prop :=
  n ≠ 0 → ∃ c m, Z b = some (.cells c m) ∧ o + n ≤ m ∧ ∀ t, t < n → c.get (kn (o + t)) = some (f t)
inductive QRel (Z : ZM) : PV → SV → Prop where
  | bool (b : Bool) : QRel Z (.bool b) (.bool b)
  | int (k : IntKind) (n : Int) : QRel Z (.int k n) (.int k n)
  | str (l : List Nat) : QRel Z (.str l) (.str l)
  | nilp : QRel Z .nilp .nilp
  | nils : QRel Z .nils .nils
  | nilm : QRel Z .nilm .nilm
  | nilf : QRel Z .nilf .nilf
  | func (f : Nat) : QRel Z (.func f [] []) (.func f [] [])
  | lst {es : Nat} {l : List (List PV)} {cap : Option Nat} {b : Key} {o : Nat} {vcap : Option Nat} (f : Nat → SV) (hc : cap = none ∨ cap = vcap) (hl : ∀ c, vcap = some c → l.length ≤ c) (he : ∀ e ∈ l, e.length = es)
      (hz : InZ Z b o (l.length * es) f) (h : ∀ (i : Nat) (e : List PV) (j : Nat) (x : PV), l[i]? = some e → e[j]? = some x → QRel Z x (f (i * es + j))) : QRel Z (.lst es l cap) (.slice b o l.length es vcap)
  | rp {l : List PV} {b : Key} {o : Nat} (f : Nat → SV) (hz : InZ Z b o l.length f) (h : ∀ (j : Nat) (x : PV), l[j]? = some x → QRel Z x (f j)) : QRel Z (.rp l) (.ptr b o)
def KRel (p : Ren) (x y : Key × Nat) : Prop := p x.1 = some y.1 ∧ x.2 = y.2
def VRel (Z : ZM) (p : Ren) : PV → SV → Prop
  | .ptr b o, s => ∃ b', p b = some b' ∧ s = .ptr b' o
  | .slice b o len es cap, s => ∃ b', p b = some b' ∧ s = .slice b' o len es cap
  | .map b, s => ∃ b', p b = some b' ∧ s = .map b'
  | .func f fs cs, s => ∃ fs' cs', s = .func f fs' cs' ∧ All₂ (KRel p) fs fs' ∧ All₂ (KRel p) cs cs'
  | .bool b, s => QRel Z (.bool b) s
  | .int k n, s => QRel Z (.int k n) s
  | .str l, s => QRel Z (.str l) s
  | .nilp, s => QRel Z .nilp s
  | .nils, s => QRel Z .nils s
  | .nilm, s => QRel Z .nilm s
  | .nilf, s => QRel Z .nilf s
  | .lst es l cap, s => QRel Z (.lst es l cap) s
  | .rp l, s => QRel Z (.rp l) s
def CR (Z : ZM) (p : Ren) : PC → CV → Prop
  | .s x, .s y => VRel Z p x y
  | .agg l, .agg m => All₂ (VRel Z p) l m
  | _, _ => False
def AR (Z : ZM) (p : Ren) : PA → AV → Prop
  | .v x, .v y => CR Z p x y
  | .tup l, .tup m => All₂ (CR Z p) l m
  | _, _ => False
def ZLe (Z Z' : ZM) : Prop := ∀ b c, Z b = some c → Z' b = some c
def PLe (p p' : Ren) : Prop := ∀ k b, p k = some b → p' k = some b
theorem InZ.mono {Z Z' : ZM} (hz : ZLe Z Z') {b : Key} {o n : Nat} {f : Nat → SV} (h : InZ Z b o n f) : InZ Z' b o n f := by
  intro hn
  obtain ⟨c, m, h1, h2⟩ := h hn
  exact ⟨c, m, hz _ _ h1, h2⟩
theorem QRel.mono {Z Z' : ZM} (hz : ZLe Z Z') {x : PV} {s : SV} (h : QRel Z x s) : QRel Z' x s := by
  induction h with
  | bool b => exact .bool b
  | int k n => exact .int k n
  | str l => exact .str l
  | nilp => exact .nilp
  | nils => exact .nils
  | nilm => exact .nilm
  | nilf => exact .nilf
  | func f => exact .func f
  | lst f hc hl he h1 _ ih => exact .lst f hc hl he (h1.mono hz) ih
  | rp f h1 _ ih => exact .rp f (h1.mono hz) ih
theorem QRel.v {Z : ZM} {p : Ren} {x : PV} {s : SV} (h : QRel Z x s) : VRel Z p x s := by
  cases h with
  | func f => exact ⟨[], [], rfl, .nil, .nil⟩
  | bool b => exact .bool b
  | int k n => exact .int k n
  | str l => exact .str l
  | nilp => exact .nilp
  | nils => exact .nils
  | nilm => exact .nilm
  | nilf => exact .nilf
  | lst f hc hl he h1 h2 => exact .lst f hc hl he h1 h2
  | rp f h1 h2 => exact .rp f h1 h2
theorem KRel.mono {p p' : Ren} (hp : PLe p p') {x y : Key × Nat} (h : KRel p x y) : KRel p' x y := ⟨hp _ _ h.1, h.2⟩
theorem VRel.mono {Z Z' : ZM} {p p' : Ren} (hz : ZLe Z Z') (hp : PLe p p') {x : PV} {s : SV} (h : VRel Z p x s) : VRel Z' p' x s := by
  cases x with
  | ptr b o => obtain ⟨b', e, hs⟩ := h; exact ⟨b', hp _ _ e, hs⟩
  | slice b o len es cap => obtain ⟨b', e, hs⟩ := h; exact ⟨b', hp _ _ e, hs⟩
  | map b => obtain ⟨b', e, hs⟩ := h; exact ⟨b', hp _ _ e, hs⟩
  | func f fs cs =>
    obtain ⟨fs', cs', e, h1, h2⟩ := h
    exact ⟨fs', cs', e, forall₂_mono h1 fun _ _ => KRel.mono hp, forall₂_mono h2 fun _ _ => KRel.mono hp⟩
  | _ => exact QRel.mono hz h
theorem CR.mono {Z Z' : ZM} {p p' : Ren} (hz : ZLe Z Z') (hp : PLe p p') {x : PC} {s : CV} (h : CR Z p x s) : CR Z' p' x s := by
  cases x <;> cases s <;> simp only [CR] at h ⊢
  · exact h.mono hz hp
  · exact forall₂_mono h fun _ _ => VRel.mono hz hp
theorem AR.mono {Z Z' : ZM} {p p' : Ren} (hz : ZLe Z Z') (hp : PLe p p') {x : PA} {s : AV} (h : AR Z p x s) : AR Z' p' x s := by
  cases x <;> cases s <;> simp only [AR] at h ⊢
  · exact h.mono hz hp
  · exact forall₂_mono h fun _ _ => CR.mono hz hp
def BR (Z : ZM) (p : Ren) : PBody → Body → Prop
  | .cells l, .cells c m => m = l.length ∧ ∀ i x, l[i]? = some x → ∃ s, c.get (kn i) = some s ∧ VRel Z p x s
  | .map l, .map m => All₂ (fun x y => CR Z p x.1 y.1 ∧ CR Z p x.2 y.2) l m
  | .iter m n st, .iter m' n' st' => p m = some m' ∧ n = n' ∧ st = st'
  | _, _ => False
theorem BR.mono {Z Z' : ZM} {p p' : Ren} (hz : ZLe Z Z') (hp : PLe p p') {x : PBody} {s : Body} (h : BR Z p x s) : BR Z' p' x s := by
  cases x <;> cases s <;> simp only [BR] at h ⊢
  · exact ⟨h.1, fun i x hx => by obtain ⟨s, h1, h2⟩ := h.2 i x hx; exact ⟨s, h1, h2.mono hz hp⟩⟩
  · exact forall₂_mono h fun _ _ hh => ⟨hh.1.mono hz hp, hh.2.mono hz hp⟩
  · exact ⟨hp _ _ h.1, h.2⟩
abbrev PMem := Key → Option PBlk
structure Sta where
  Z : ZM
  p : Ren
  g : PHeap
  h : Heap
structure BlkRel (Z : ZM) (p : Ren) (b : Key) (x : PBlk) (y : Blk) : Prop where
  body : BR Z p x.body y.body
  own : x.own = true → y.own = true ∧ All₂ (fun a a' => p a = some a') x.anc y.anc
  thaw : x.frz = false → Z b = none
  frz : x.frz = true → Z b = some y.body
structure PSim (s : Sta) : Prop where
  inj : ∀ k k' b, s.p k = some b → s.p k' = some b → k = k'
  blk : ∀ k x, s.g.get k = some x → ∃ b y, s.p k = some b ∧ s.h.get b = some y ∧ BlkRel s.Z s.p b x y
  z : ∀ b c, s.Z b = some c → ∃ y, s.h.get b = some y ∧ y.body = c
  dead : ∀ k b, s.p k = some b → s.g.get k = none → s.h.get b = none
structure Room (s : Sta) : Prop where
  pk : ∀ k b, s.p k = some b → k.toNat < s.g.next.toNat ∧ b.toNat < s.h.next.toNat
  zr : ∀ b c, s.Z b = some c → b.toNat < s.h.next.toNat
  top : ∀ b : Key, s.h.next.toNat ≤ b.toNat → s.h.get b = none
structure Good (s : Sta) : Prop extends PSim s, Room s
def Still (new : List (Nat × Nat)) (i : Nat) : Prop := ∀ q ∈ new, i < q.1 ∨ q.1 + q.2 ≤ i
structure Keep (new : List (Nat × Nat)) (B B' : PBody) (C C' : Body) : Prop where
  same : new = [] → B' = B ∧ C' = C
  kind : ∀ l', B' = .cells l' → ∃ l, B = .cells l
  cells : ∀ l c m, B = .cells l → C = .cells c m → ∃ l' c', B' = .cells l' ∧ C' = .cells c' m ∧ l'.length = l.length ∧ ∀ i, Still new i → l'[i]? = l[i]? ∧ c'.get (kn i) = c.get (kn i)
theorem Keep.refl (B : PBody) (C : Body) : Keep [] B B C C :=
  ⟨fun _ => ⟨rfl, rfl⟩, fun l h => ⟨l, h⟩, fun l c _ h1 h2 => ⟨l, c, h1, h2, rfl, fun _ _ => ⟨rfl, rfl⟩⟩⟩
theorem Keep.trans {new new' : List (Nat × Nat)} {B B' B'' : PBody} {C C' C'' : Body} (h : Keep new B B' C C') (h' : Keep new' B' B'' C' C'') : Keep (new' ++ new) B B'' C C'' := by
  refine ⟨fun e => ?_, fun l e => (by obtain ⟨l1, e1⟩ := h'.kind l e; exact h.kind l1 e1), fun l c m h1 h2 => ?_⟩
  · simp at e
    obtain ⟨a, b⟩ := h.same e.2
    obtain ⟨a', b'⟩ := h'.same e.1
    exact ⟨a'.trans a, b'.trans b⟩
  · obtain ⟨l1, c1, e1, e2, e3, e4⟩ := h.cells l c m h1 h2
    obtain ⟨l2, c2, f1, f2, f3, f4⟩ := h'.cells l1 c1 m e1 e2
    refine ⟨l2, c2, f1, f2, f3.trans e3, fun i hi => ?_⟩
    have hi1 : Still new i := fun q hq => hi q (List.mem_append_right _ hq)
    have hi2 : Still new' i := fun q hq => hi q (List.mem_append_left _ hq)
    exact ⟨(f4 i hi2).1.trans (e4 i hi1).1, (f4 i hi2).2.trans (e4 i hi1).2⟩
structure PExt (lo lov : Nat) (s s' : Sta) : Prop where
  nx : s.g.next.toNat ≤ s'.g.next.toNat ∧ s.h.next.toNat ≤ s'.h.next.toNat
  zle : ZLe s.Z s'.Z
  ple : PLe s.p s'.p
  newk : ∀ k b, s'.p k = some b → s.p k = some b ∨ (lo ≤ k.toNat ∧ lov ≤ b.toNat)
  newz : ∀ b c, s'.Z b = some c → s.Z b ≠ none ∨ (∃ k, s.p k = some b) ∨ lov ≤ b.toNat
  frame : ∀ b, b.toNat < lov → (∀ k, s.p k ≠ some b) → s'.h.get b = s.h.get b
  gone : ∀ k b, s.p k = some b → s.g.get k = none → s'.g.get k = none
  log : ∀ k x x', s.g.get k = some x → s'.g.get k = some x' → ∃ new, x'.log = new ++ x.log ∧
    ∀ b y, s.p k = some b → s.h.get b = some y → ∃ y', s'.h.get b = some y' ∧ Keep new x.body x'.body y.body y'.body
theorem PExt.refl (lo lov : Nat) (s : Sta) : PExt lo lov s s :=
  ⟨⟨Nat.le_refl _, Nat.le_refl _⟩, fun _ _ h => h, fun _ _ h => h, fun _ _ h => .inl h, fun b c h => .inl (by rw [h]; simp), fun _ _ _ => rfl, fun _ _ _ h => h,
    fun k x x' h h' => by rw [h] at h'; cases h'; exact ⟨[], rfl, fun b y _ hy => ⟨y, hy, Keep.refl _ _⟩⟩⟩
theorem PExt.trans {lo lov lo' lov' : Nat} {s s' s'' : Sta} (hs : PSim s) (h : PExt lo lov s s') (h' : PExt lo' lov' s' s'') (h1 : lo ≤ lo') (h2 : lov ≤ lov') : PExt lo lov s s'' where
  nx := ⟨Nat.le_trans h.nx.1 h'.nx.1, Nat.le_trans h.nx.2 h'.nx.2⟩
  zle b c e := h'.zle b c (h.zle b c e)
  ple k b e := h'.ple k b (h.ple k b e)
  newk k b e := by
    rcases h'.newk k b e with e | e
    · exact h.newk k b e
    · exact .inr (by omega)
  newz b c e := by
    rcases h'.newz b c e with e | ⟨k, e⟩ | e
    · cases hz : s'.Z b with
      | none => exact absurd hz e
      | some c' => exact h.newz b c' hz
    · rcases h.newk k b e with e | e
      · exact .inr (.inl ⟨k, e⟩)
      · exact .inr (.inr e.2)
    · exact .inr (.inr (by omega))
  frame b hb hn := by
    rw [h'.frame b (by omega) fun k e => ?_, h.frame b hb hn]
    rcases h.newk k b e with e | e
    · exact hn k e
    · omega
  gone k b e e' := h'.gone k b (h.ple k b e) (h.gone k b e e')
  log k x x'' hx hx'' := by
    cases hx' : s'.g.get k with
    | none =>
      obtain ⟨b, _, hb, _⟩ := hs.blk k x hx
      have hb := h.ple k b hb
      rw [h'.gone k b hb hx'] at hx''
      cases hx''
    | some x' =>
      obtain ⟨n1, l1, k1⟩ := h.log k x x' hx hx'
      obtain ⟨n2, l2, k2⟩ := h'.log k x' x'' hx' hx''
      refine ⟨n2 ++ n1, by rw [l2, l1, List.append_assoc], fun b y hp hy => ?_⟩
      obtain ⟨y', e1, e2⟩ := k1 b y hp hy
      obtain ⟨y'', f1, f2⟩ := k2 b y' (h.ple k b hp) e1
      exact ⟨y'', f1, e2.trans f2⟩
end Go.Pv
end
section
namespace Go.Pv
open Go.Vm
open Go.Vm.Key (kn)
theorem pget_upd (h : PHeap) (b : Key) (x : Option PBlk) : (h.upd b x).get = fun k => if b = k then x else h.get k := by
  funext k; exact Tr.get_upd x h.mem b k
theorem pget_newB (h : PHeap) (body : PBody) (own : Bool) (anc : List Key) : (h.newB body own anc).get = fun k => if h.next = k then some ⟨body, own, false, anc, []⟩ else h.get k := by
  funext k; exact Tr.get_upd _ h.mem h.next k
theorem pkillAll_get : ∀ (anc : List Key) (h : PHeap) (k : Key), (h.killAll anc).get k = if k ∈ anc then none else h.get k
  | [], h, k => by simp [PHeap.killAll]
  | b :: l, h, k => by
    rw [PHeap.killAll, pkillAll_get l, pget_upd]
    by_cases h1 : k ∈ l
    · simp [h1]
    · by_cases h2 : b = k
      · simp [h2]
      · simp [h1, h2, Ne.symm h2]
theorem pkillAll_next : ∀ (anc : List Key) (h : PHeap), (h.killAll anc).next = h.next
  | [], _ => rfl
  | _ :: l, h => by rw [PHeap.killAll, pkillAll_next l]; rfl
def tab (f : Nat → SV) : Nat → List SV
  | 0 => []
  | n + 1 => f 0 :: tab (fun t => f (t + 1)) n
theorem tab_length : ∀ (n : Nat) (f : Nat → SV), (tab f n).length = n
  | 0, _ => rfl
  | n + 1, f => by simp [tab, tab_length n]
theorem readN_tab {c : Tr SV} : ∀ (n o : Nat) (f : Nat → SV), (∀ t, t < n → c.get (kn (o + t)) = some (f t)) → readN c o n = some (tab f n)
  | 0, _, _, _ => rfl
  | n + 1, o, f, h => by
    have h0 := h 0 (by omega)
    rw [Nat.add_zero] at h0
    simp only [readN, h0, readN_tab n (o + 1) (fun t => f (t + 1)) (fun t ht => by rw [← h (t + 1) (by omega)]; congr 2; omega), tab]
theorem rel_tab {R : PV → SV → Prop} : ∀ (l : List PV) (f : Nat → SV), (∀ j x, l[j]? = some x → R x (f j)) → All₂ R l (tab f l.length)
  | [], _, _ => .nil
  | x :: l, f, h => .cons (h 0 x rfl) (rel_tab l (fun t => f (t + 1)) fun j y hy => h (j + 1) y (by simpa using hy))
theorem tab_congr : ∀ (n : Nat) (f g : Nat → SV), (∀ t, t < n → f t = g t) → tab f n = tab g n
  | 0, _, _, _ => rfl
  | n + 1, f, g, h => by rw [tab, tab, h 0 (by omega), tab_congr n _ (fun t => g (t + 1)) fun t ht => h (t + 1) (by omega)]
theorem tab_append : ∀ (n m : Nat) (f : Nat → SV), tab f (n + m) = tab f n ++ tab (fun t => f (n + t)) m
  | 0, m, f => by simp [tab]
  | n + 1, m, f => by
    rw [show n + 1 + m = (n + m) + 1 from by omega, tab, tab, tab_append n m, List.cons_append]
    congr 2
    exact tab_congr _ _ _ fun t _ => by rw [show n + t + 1 = n + 1 + t from by omega]
theorem readN_all {c : Tr SV} {R : PV → SV → Prop} : ∀ (l : List PV) (o : Nat), (∀ i x, l[i]? = some x → ∃ s, c.get (kn (o + i)) = some s ∧ R x s) → ∃ l', readN c o l.length = some l' ∧ All₂ R l l'
  | [], _, _ => ⟨[], rfl, .nil⟩
  | x :: l, o, h => by
    obtain ⟨s, h0, hr⟩ := h 0 x rfl
    rw [Nat.add_zero] at h0
    obtain ⟨l', h1, h2⟩ := readN_all l (o + 1) fun i y hy => by
      obtain ⟨t, ht, hr⟩ := h (i + 1) y (by simpa using hy)
      exact ⟨t, by rw [← ht]; congr 2; omega, hr⟩
    exact ⟨s :: l', by simp only [readN, List.length_cons, h0, h1], .cons hr h2⟩
variable {s : Sta}
theorem cells_there {b : Key} {l : List PV} (e : s.g.cells b = some l) : ∃ own frz anc log, s.g.get b = some ⟨.cells l, own, frz, anc, log⟩ := by
  unfold PHeap.cells at e
  split at e
  · next h => cases e; exact ⟨_, _, _, _, h⟩
  · cases e
theorem BR.cells {Z : ZM} {p : Ren} {l : List PV} {y : Body} (h : BR Z p (.cells l) y) : ∃ c, y = .cells c l.length ∧ ∀ i x, l[i]? = some x → ∃ s, c.get (kn i) = some s ∧ VRel Z p x s := by
  cases y <;> simp only [BR] at h
  obtain ⟨rfl, h⟩ := h
  exact ⟨_, rfl, h⟩
theorem PSim.cells (hs : PSim s) {b b' : Key} (hp : s.p b = some b') {x : PBlk} (hx : s.g.get b = some x) {l : List PV} (hl : x.body = .cells l) :
    ∃ y c, s.h.get b' = some y ∧ BlkRel s.Z s.p b' x y ∧ y.body = .cells c l.length ∧ ∀ i v, l[i]? = some v → ∃ u, c.get (kn i) = some u ∧ VRel s.Z s.p v u := by
  obtain ⟨b2, y, h1, h2, h3⟩ := hs.blk b x hx
  rw [hp] at h1; cases h1
  have := h3.body
  rw [hl] at this
  obtain ⟨c, h4, h5⟩ := this.cells
  exact ⟨y, c, h2, h3, h4, h5⟩
theorem drop_take_get (l : List PV) (o n i : Nat) (x : PV) (h : ((l.drop o).take n)[i]? = some x) : l[o + i]? = some x ∧ i < n := by
  rw [List.getElem?_take] at h
  split at h
  · next hi => rw [List.getElem?_drop] at h; exact ⟨h, hi⟩
  · cases h
theorem read_sim (hs : PSim s) {b b' : Key} (hp : s.p b = some b') {o n : Nat} {l : List PV} (e : s.g.read b o n = some l) : ∃ l', s.h.read b' o n = some l' ∧ All₂ (VRel s.Z s.p) l l' := by
  unfold PHeap.read at e
  split at e
  · next h0 => cases e; exact ⟨[], by simp [Heap.read, h0], .nil⟩
  · next h0 =>
    split at e
    · next c hc =>
      split at e
      · next hle =>
        cases e
        obtain ⟨own, frz, anc, log, hx⟩ := cells_there hc
        obtain ⟨y, d, h1, _, h2, h3⟩ := hs.cells hp hx rfl
        have hlen : ((c.drop o).take n).length = n := by simp; omega
        obtain ⟨l', h4, h5⟩ := readN_all (c := d) (R := VRel s.Z s.p) ((c.drop o).take n) o fun i x hi => by
          obtain ⟨h, _⟩ := drop_take_get c o n i x hi
          exact h3 _ _ h
        rw [hlen] at h4
        refine ⟨l', ?_, h5⟩
        have : s.h.cells b' = some (d, c.length) := by
          unfold Heap.cells
          obtain ⟨body, own', anc'⟩ := y
          simp only at h2
          subst h2
          rw [h1]
        simp [Heap.read, h0, this, hle, h4]
      · cases e
    · cases e
theorem cells_z (hs : PSim s) {b : Key} {c : Tr SV} {m : Nat} (hz : s.Z b = some (.cells c m)) : s.h.cells b = some (c, m) := by
  obtain ⟨⟨body, own, anc⟩, h1, h2⟩ := hs.z b _ hz
  simp only at h2
  subst h2
  simp [Heap.cells, h1]
theorem read_z (hs : PSim s) {b : Key} {o n : Nat} {f : Nat → SV} (hz : InZ s.Z b o n f) (i k : Nat) (hk : i + k ≤ n) : s.h.read b (o + i) k = some (tab (fun t => f (i + t)) k) := by
  unfold Heap.read
  by_cases h0 : k = 0
  · subst h0; simp [tab]
  · obtain ⟨c, m, h1, h2, h3⟩ := hz (by omega)
    rw [if_neg h0, cells_z hs h1]
    simp only [if_pos (show o + i + k ≤ m by omega)]
    exact readN_tab k (o + i) _ fun t ht => by rw [← h3 (i + t) (by omega)]; congr 2; omega
theorem flatten_rel {R : PV → SV → Prop} {es : Nat} : ∀ (l : List (List PV)) (f : Nat → SV), (∀ e ∈ l, e.length = es) → (∀ (i : Nat) e (j : Nat) x, l[i]? = some e → e[j]? = some x → R x (f (i * es + j))) → All₂ R l.flatten (tab f (l.length * es))
  | [], f, _, _ => by simp [tab]
  | e :: l, f, he, h => by
    have h1 : e.length = es := he e (by simp)
    have h2 : All₂ R e (tab f es) := h1 ▸ rel_tab e f fun j x hx => by have := h 0 e j x rfl hx; simpa using this
    have h3 := flatten_rel (es := es) l (fun t => f (es + t)) (fun e' he' => he e' (by simp [he'])) fun i e' j x hi hj => by
      have := h (i + 1) e' j x (by simpa using hi) hj
      rw [show (i + 1) * es + j = es + (i * es + j) from by rw [Nat.add_mul]; omega] at this
      exact this
    rw [List.flatten_cons, List.length_cons, show (l.length + 1) * es = es + l.length * es from by rw [Nat.add_mul]; omega, tab_append]
    exact forall₂_append h2 h3
theorem QRel.lst' {Z : ZM} {es : Nat} {l : List (List PV)} {cap : Option Nat} {v : SV} (h : QRel Z (.lst es l cap) v) : ∃ b o vcap f, v = .slice b o l.length es vcap ∧ (cap = none ∨ cap = vcap) ∧ (∀ c, vcap = some c → l.length ≤ c) ∧
    (∀ e ∈ l, e.length = es) ∧ InZ Z b o (l.length * es) f ∧ ∀ (i : Nat) (e : List PV) (j : Nat) (x : PV), l[i]? = some e → e[j]? = some x → QRel Z x (f (i * es + j)) := by
  cases h with
  | lst f hc hl he hz h => exact ⟨_, _, _, f, rfl, hc, hl, he, hz, h⟩
theorem QRel.rp' {Z : ZM} {l : List PV} {v : SV} (h : QRel Z (.rp l) v) : ∃ b o f, v = .ptr b o ∧ InZ Z b o l.length f ∧ ∀ (j : Nat) (x : PV), l[j]? = some x → QRel Z x (f j) := by
  cases h with
  | rp f hz h => exact ⟨_, _, f, rfl, hz, h⟩
theorem src_sim (hs : PSim s) {es : Nat} {x : PV} {v : SV} (hv : VRel s.Z s.p x v) {l : List PV} {n : Nat} (e : srcP s.g es x = some (l, n)) : ∃ l', srcCells s.h es v = some (l', n) ∧ All₂ (VRel s.Z s.p) l l' := by
  unfold srcP at e
  split at e
  · cases e; cases hv; exact ⟨[], rfl, .nil⟩
  · obtain ⟨b', hp, rfl⟩ := hv
    split at e
    · next he =>
      split at e
      · next l0 hr =>
        cases e
        obtain ⟨l', h1, h2⟩ := read_sim hs hp hr
        exact ⟨l', by simp only [srcCells, if_pos he, h1], h2⟩
      · cases e
    · cases e
  · split at e
    · next he =>
      cases e
      subst he
      obtain ⟨b, o, vcap, f, rfl, _, _, he, hz, h⟩ := QRel.lst' hv
      have := read_z hs hz 0 _ (Nat.le_of_eq (Nat.zero_add _))
      rw [Nat.add_zero] at this
      refine ⟨_, by simp only [srcCells, if_true, this]; rfl, ?_⟩
      simp only [Nat.zero_add]
      exact flatten_rel _ f he fun i e j x hi hj => (h i e j x hi hj).v
    · cases e
  · split at e
    · next he =>
      cases e; cases hv
      exact ⟨_, by simp only [srcCells, if_pos he], forall₂_map _ _ _ fun n _ => QRel.int .u8 n⟩
    · cases e
  · cases e
def Ren.set (p : Ren) (k b : Key) : Ren := fun j => if k = j then some b else p j
theorem Ren.set_same (p : Ren) (k b : Key) : p.set k b k = some b := by simp [Ren.set]
theorem Ren.set_ne (p : Ren) {k j : Key} (b : Key) (h : k ≠ j) : p.set k b j = p j := by simp [Ren.set, h]
structure FreeAt (s : Sta) (k b : Key) : Prop where
  k : s.p k = none
  z : s.Z b = none
  b : ∀ j, s.p j ≠ some b
theorem FreeAt.le {k b : Key} (hf : FreeAt s k b) : PLe s.p (s.p.set k b) := by
  intro j c e
  by_cases h : k = j
  · subst h; rw [hf.k] at e; cases e
  · rw [Ren.set_ne _ _ h]; exact e
theorem Good.free (hs : Good s) : FreeAt s s.g.next s.h.next := by
  refine ⟨?_, ?_, fun j e => ?_⟩
  · cases h : s.p s.g.next with
    | none => rfl
    | some b => have := (hs.pk _ _ h).1; omega
  · cases h : s.Z s.h.next with
    | none => rfl
    | some c => have := hs.zr _ _ h; omega
  · have := (hs.pk _ _ e).2; omega
def Sta.new (s : Sta) (body : PBody) (own : Bool) (anc : List Key) (y : Blk) : Sta := ⟨s.Z, s.p.set s.g.next s.h.next, s.g.newB body own anc, s.h.newB y⟩
theorem new_sim (hs : PSim s) (hf : FreeAt s s.g.next s.h.next) {body : PBody} {own : Bool} {anc : List Key} {y : Blk} (hb : BR s.Z (s.p.set s.g.next s.h.next) body y.body)
    (ho : own = true → y.own = true ∧ All₂ (fun a a' => s.p a = some a') anc y.anc) : PSim (s.new body own anc y) where
  inj k k' b h1 h2 := by
    simp only [Sta.new] at h1 h2
    by_cases e1 : s.g.next = k
    · subst e1
      rw [Ren.set_same] at h1; cases h1
      by_cases e2 : s.g.next = k'
      · exact e2
      · rw [Ren.set_ne _ _ e2] at h2; exact absurd h2 (hf.b _)
    · rw [Ren.set_ne _ _ e1] at h1
      by_cases e2 : s.g.next = k'
      · subst e2
        rw [Ren.set_same] at h2; cases h2
        exact absurd h1 (hf.b _)
      · rw [Ren.set_ne _ _ e2] at h2; exact hs.inj k k' b h1 h2
  blk k x hx := by
    simp only [Sta.new] at hx ⊢
    rw [pget_newB] at hx
    by_cases e : s.g.next = k
    · subst e
      simp only [if_true, Option.some.injEq] at hx
      subst hx
      refine ⟨s.h.next, y, Ren.set_same _ _ _, by rw [get_newB]; simp, hb, fun e => ?_, fun _ => hf.z, fun e => by cases e⟩
      exact ⟨(ho e).1, forall₂_mono (ho e).2 fun a a' h => hf.le a a' h⟩
    · simp only [e, if_false] at hx
      obtain ⟨b, z, h1, h2, h3⟩ := hs.blk k x hx
      have hne : s.h.next ≠ b := fun e => hf.b k (e ▸ h1)
      refine ⟨b, z, by rw [Ren.set_ne _ _ e]; exact h1, by rw [get_newB]; simp [hne, h2], h3.body.mono (fun _ _ h => h) hf.le, fun e => ?_, h3.thaw, h3.frz⟩
      exact ⟨(h3.own e).1, forall₂_mono (h3.own e).2 fun a a' h => hf.le a a' h⟩
  z b c h := by
    simp only [Sta.new] at h ⊢
    have hne : s.h.next ≠ b := fun e => by rw [← e, hf.z] at h; cases h
    rw [get_newB]; simp only [hne, if_false]
    exact hs.z b c h
  dead k b h1 h2 := by
    simp only [Sta.new] at h1 h2 ⊢
    rw [pget_newB] at h2
    by_cases e : s.g.next = k
    · simp [e] at h2
    · simp only [e, if_false] at h2
      rw [Ren.set_ne _ _ e] at h1
      have hne : s.h.next ≠ b := fun e => hf.b k (e ▸ h1)
      rw [get_newB]; simp only [hne, if_false]
      exact hs.dead k b h1 h2
theorem new_room (hs : Room s) {body : PBody} {own : Bool} {anc : List Key} {y : Blk} : Room (s.new body own anc y) where
  pk k b h := by
    simp only [Sta.new, PHeap.newB, Heap.newB, Key.toNat_succ] at h ⊢
    by_cases e : s.g.next = k
    · subst e; rw [Ren.set_same] at h; cases h; omega
    · rw [Ren.set_ne _ _ e] at h; have := hs.pk k b h; omega
  zr b c h := by
    simp only [Sta.new, Heap.newB, Key.toNat_succ] at h ⊢
    have := hs.zr b c h; omega
  top b h := by
    simp only [Sta.new] at h ⊢
    have h : s.h.next.succ.toNat ≤ b.toNat := h
    rw [Key.toNat_succ] at h
    have hne : s.h.next ≠ b := by rintro rfl; omega
    rw [get_newB]; simp only [hne, if_false]
    exact hs.top b (by omega)
theorem new_ext (hs : PSim s) (hf : FreeAt s s.g.next s.h.next) {body : PBody} {own : Bool} {anc : List Key} {y : Blk} : PExt s.g.next.toNat s.h.next.toNat s (s.new body own anc y) where
  nx := by simp [Sta.new, PHeap.newB, Heap.newB, Key.toNat_succ]
  zle _ _ h := h
  ple := hf.le
  newk k b h := by
    simp only [Sta.new] at h
    by_cases e : s.g.next = k
    · subst e; rw [Ren.set_same] at h; cases h; exact .inr ⟨Nat.le_refl _, Nat.le_refl _⟩
    · rw [Ren.set_ne _ _ e] at h; exact .inl h
  newz b c h := .inl (by simp only [Sta.new] at h; rw [h]; simp)
  frame b hb _ := by
    simp only [Sta.new]
    have hne : s.h.next ≠ b := by rintro rfl; omega
    rw [get_newB]; simp [hne]
  gone k b h1 h2 := by
    simp only [Sta.new]
    have hne : s.g.next ≠ k := by rintro rfl; rw [hf.k] at h1; cases h1
    rw [pget_newB]; simp [hne, h2]
  log k x x' h1 h2 := by
    simp only [Sta.new] at h2 ⊢
    obtain ⟨b, y0, h3, h4, _⟩ := hs.blk k x h1
    have hne : s.g.next ≠ k := by rintro rfl; rw [hf.k] at h3; cases h3
    rw [pget_newB] at h2
    simp only [hne, if_false, h1, Option.some.injEq] at h2
    subst h2
    refine ⟨[], rfl, fun b y1 hb hy => ⟨y1, ?_, Keep.refl _ _⟩⟩
    have hne' : s.h.next ≠ b := fun e => hf.b k (e ▸ hb)
    rw [get_newB]; simp [hne', hy]
theorem new_good (hs : Good s) {body : PBody} {own : Bool} {anc : List Key} {y : Blk} (hb : BR s.Z (s.p.set s.g.next s.h.next) body y.body)
    (ho : own = true → y.own = true ∧ All₂ (fun a a' => s.p a = some a') anc y.anc) : Good (s.new body own anc y) ∧ PExt s.g.next.toNat s.h.next.toNat s (s.new body own anc y) :=
  ⟨⟨new_sim hs.toPSim hs.free hb ho, new_room hs.toRoom⟩, new_ext hs.toPSim hs.free⟩
theorem BR.list {Z : ZM} {p : Ren} {l : List PV} {l' : List SV} (h : All₂ (VRel Z p) l l') : BR Z p (.cells l) (Body.ofList l') := by
  refine ⟨(forall₂_len h).symm, fun i x hx => ?_⟩
  obtain ⟨v, h1, h2⟩ := forall₂_get h i hx
  refine ⟨v, ?_, h2⟩
  rw [Tr.get_putFrom, if_pos ⟨by omega, by rw [Nat.zero_add]; exact (List.getElem?_eq_some_iff.1 h1).1⟩]
  simpa using h1
theorem anyFrz_mem {g : PHeap} : ∀ {l : List Key}, g.anyFrz l = false → ∀ k ∈ l, ∀ x, g.get k = some x → x.frz = false
  | [], _, _, hk => by cases hk
  | b :: l, h, k, hk => by
    intro x hx
    simp only [PHeap.anyFrz, Bool.or_eq_false_iff] at h
    rcases List.mem_cons.1 hk with rfl | hk
    · rw [hx] at h; exact h.1
    · exact anyFrz_mem h.2 k hk x hx
theorem all₂_mem_left {α β : Type} {R : α → β → Prop} {l : List α} {m : List β} (h : All₂ R l m) : ∀ b ∈ m, ∃ a ∈ l, R a b := by
  induction h with
  | nil => intro b hb; cases hb
  | cons h _ ih =>
    intro b hb
    rcases List.mem_cons.1 hb with rfl | hb
    · exact ⟨_, by simp, h⟩
    · obtain ⟨a, h1, h2⟩ := ih b hb; exact ⟨a, by simp [h1], h2⟩
theorem all₂_mem_right {α β : Type} {R : α → β → Prop} {l : List α} {m : List β} (h : All₂ R l m) : ∀ a ∈ l, ∃ b ∈ m, R a b := by
  induction h with
  | nil => intro b hb; cases hb
  | cons h _ ih =>
    intro b hb
    rcases List.mem_cons.1 hb with rfl | hb
    · exact ⟨_, by simp, h⟩
    · obtain ⟨a, h1, h2⟩ := ih b hb; exact ⟨a, by simp [h1], h2⟩
theorem turn_sim (hs : PSim s) {anc : List Key} {anc' : List Key} (ha : All₂ (fun a a' => s.p a = some a') anc anc') (hn : s.g.anyFrz anc = false) {b b' : Key} (hp : s.p b = some b') (hzb : s.Z b' = none)
    {x' : Option PBlk} {y' : Option Blk} (hxy : match x' with
      | some x => ∃ y, y' = some y ∧ BR s.Z s.p x.body y.body ∧ y.own = true ∧ y.anc = [] ∧ x.anc = [] ∧ x.frz = false
      | none => y' = none) :
    PSim ⟨s.Z, s.p, (s.g.killAll anc).upd b x', (s.h.killAll anc').upd b' y'⟩ where
  inj := hs.inj
  blk k x hx := by
    simp only at hx ⊢
    rw [pget_upd] at hx
    by_cases e : b = k
    · subst e
      simp only [if_true] at hx
      subst hx
      obtain ⟨y, h1, h2, h3, h4, h5, h6⟩ := hxy
      refine ⟨b', y, hp, by rw [get_upd]; simp [h1], h2, fun _ => ⟨h3, by rw [h4, h5]; exact .nil⟩, fun _ => hzb, fun h => by rw [h6] at h; cases h⟩
    · simp only [e, if_false] at hx
      rw [pkillAll_get] at hx
      split at hx
      · cases hx
      · next hk =>
        obtain ⟨c, y, h1, h2, h3⟩ := hs.blk k x hx
        have hne : b' ≠ c := fun e' => e (hs.inj b k c (e' ▸ hp) h1)
        have hnm : c ∉ anc' := fun hm => by
          obtain ⟨a, h4, h5⟩ := all₂_mem_left ha c hm
          exact hk (hs.inj a k c h5 h1 ▸ h4)
        exact ⟨c, y, h1, by rw [get_upd]; simp [hne, killAll_get, hnm, h2], h3⟩
  z c body hc := by
    simp only at hc ⊢
    have hne : b' ≠ c := fun e => by rw [← e, hzb] at hc; cases hc
    have hnm : c ∉ anc' := fun hm => by
      obtain ⟨a, h4, h5⟩ := all₂_mem_left ha c hm
      obtain ⟨y, h6, _⟩ := hs.z c body hc
      cases hg : s.g.get a with
      | none => rw [hs.dead a c h5 hg] at h6; cases h6
      | some x =>
        obtain ⟨c2, _, h7, _, h8⟩ := hs.blk a x hg
        rw [h5] at h7; cases h7
        rw [h8.thaw (anyFrz_mem hn a h4 x hg)] at hc; cases hc
    rw [get_upd]; simp only [hne, if_false, killAll_get, hnm]
    exact hs.z c body hc
  dead k c h1 h2 := by
    simp only at h1 h2 ⊢
    rw [pget_upd] at h2
    rw [get_upd]
    by_cases e : b = k
    · subst e
      rw [hp] at h1; cases h1
      simp only [if_true] at h2 ⊢
      subst h2
      exact hxy
    · simp only [e, if_false] at h2
      have hne : b' ≠ c := fun e' => e (hs.inj b k c (e' ▸ hp) h1)
      simp only [hne, if_false]
      rw [killAll_get]
      rw [pkillAll_get] at h2
      split at h2
      · next hk =>
        obtain ⟨a', h3, h4⟩ := all₂_mem_right ha k hk
        rw [h1] at h4; cases h4
        simp [h3]
      · split
        · rfl
        · exact hs.dead k c h1 h2
theorem turn_ext (hs : PSim s) {lo lov : Nat} {anc : List Key} {anc' : List Key} (ha : All₂ (fun a a' => s.p a = some a') anc anc') {b b' : Key} (hp : s.p b = some b')
    {x' : Option PBlk} {y' : Option Blk} (hx : ∃ x, s.g.get b = some x)
    (hlog : ∀ x x1, s.g.get b = some x → x' = some x1 → ∃ new, x1.log = new ++ x.log ∧ ∀ y, s.h.get b' = some y → ∃ y1, y' = some y1 ∧ Keep new x.body x1.body y.body y1.body) :
    PExt lo lov s ⟨s.Z, s.p, (s.g.killAll anc).upd b x', (s.h.killAll anc').upd b' y'⟩ where
  nx := by simp [PHeap.upd, Heap.upd, pkillAll_next, killAll_next]
  zle _ _ h := h
  ple _ _ h := h
  newk _ _ h := .inl h
  newz b c h := .inl (by simp only at h; rw [h]; simp)
  frame c hc hn := by
    simp only
    have hne : b' ≠ c := fun e => hn b (e ▸ hp)
    have hnm : c ∉ anc' := fun hm => by
      obtain ⟨a, _, h5⟩ := all₂_mem_left ha c hm
      exact hn a h5
    rw [get_upd]; simp [hne, killAll_get, hnm]
  gone k c h1 h2 := by
    simp only
    rw [pget_upd]
    by_cases e : b = k
    · subst e; obtain ⟨x, hx⟩ := hx; rw [hx] at h2; cases h2
    · simp only [e, if_false]; rw [pkillAll_get]; split
      · rfl
      · exact h2
  log k x x1 h1 h2 := by
    simp only at h2 ⊢
    rw [pget_upd] at h2
    by_cases e : b = k
    · subst e
      simp only [if_true] at h2
      obtain ⟨new, h3, h4⟩ := hlog x x1 h1 h2
      refine ⟨new, h3, fun c y hc hy => ?_⟩
      rw [hp] at hc; cases hc
      obtain ⟨y1, h5, h6⟩ := h4 y hy
      exact ⟨y1, by rw [get_upd]; simp [h5], h6⟩
    · simp only [e, if_false] at h2
      rw [pkillAll_get] at h2
      split at h2
      · cases h2
      · next hk =>
        rw [h1] at h2; cases h2
        refine ⟨[], rfl, fun c y hc hy => ⟨y, ?_, Keep.refl _ _⟩⟩
        have hne : b' ≠ c := fun e' => e (hs.inj b k c (e' ▸ hp) hc)
        have hnm : c ∉ anc' := fun hm => by
          obtain ⟨a, h4, h5⟩ := all₂_mem_left ha c hm
          exact hk (hs.inj a k c h5 hc ▸ h4)
        rw [get_upd]; simp [hne, killAll_get, hnm, hy]
theorem turn_room (hs : Room s) {anc anc' : List Key} {b b' : Key} (hp : s.p b = some b') {x' : Option PBlk} {y' : Option Blk} : Room ⟨s.Z, s.p, (s.g.killAll anc).upd b x', (s.h.killAll anc').upd b' y'⟩ := by
  refine ⟨fun k c h => ?_, fun c body h => ?_, fun c h => ?_⟩
  · have := hs.pk k c h
    simpa [PHeap.upd, Heap.upd, pkillAll_next, killAll_next] using this
  · have := hs.zr c body h
    simpa [Heap.upd, killAll_next] using this
  · have h : s.h.next.toNat ≤ c.toNat := by simpa [Heap.upd, killAll_next] using h
    have hlt := (hs.pk b b' hp).2
    have hne : b' ≠ c := by rintro rfl; omega
    simp only
    rw [get_upd]; simp only [hne, if_false]
    rw [killAll_get]; split
    · rfl
    · exact hs.top c h
theorem over_length {c : List PV} {o : Nat} {l : List PV} (h : o + l.length ≤ c.length) : (PHeap.over c o l).length = c.length := by
  simp [PHeap.over]; omega
theorem over_get {c : List PV} {o : Nat} {l : List PV} (h : o + l.length ≤ c.length) (i : Nat) : (PHeap.over c o l)[i]? = if o ≤ i ∧ i < o + l.length then l[i - o]? else c[i]? := by
  unfold PHeap.over
  rw [List.append_assoc]
  have h0 : (c.take o).length = o := by simp; omega
  by_cases h1 : i < o
  · rw [if_neg (by omega), List.getElem?_append_left (by omega), List.getElem?_take, if_pos h1]
  · rw [List.getElem?_append_right (by omega), h0]
    by_cases h2 : i < o + l.length
    · rw [if_pos ⟨by omega, h2⟩, List.getElem?_append_left (by omega)]
    · rw [if_neg (by omega), List.getElem?_append_right (by omega), List.getElem?_drop]
      congr 1; omega
theorem BR.over {Z : ZM} {p : Ren} {c : List PV} {d : Tr SV} {o : Nat} {l : List PV} {l' : List SV} (h : o + l.length ≤ c.length)
    (hd : ∀ i x, c[i]? = some x → ∃ s, d.get (kn i) = some s ∧ VRel Z p x s) (hl : All₂ (VRel Z p) l l') : BR Z p (.cells (PHeap.over c o l)) (.cells (d.putFrom o l') c.length) := by
  have hlen := forall₂_len hl
  refine ⟨(over_length h).symm, fun i x hx => ?_⟩
  rw [over_get h] at hx
  rw [Tr.get_putFrom, ← hlen]
  split
  · next hi =>
    rw [if_pos hi] at hx
    obtain ⟨v, h1, h2⟩ := forall₂_get hl _ hx
    exact ⟨v, h1, h2⟩
  · next hi => rw [if_neg hi] at hx; exact hd i x hx
theorem write_sim (hs : Good s) {lo lov : Nat} {b b' : Key} (hp : s.p b = some b') {o : Nat} {l : List PV} {l' : List SV} (hl : All₂ (VRel s.Z s.p) l l') {g' : PHeap} (e : s.g.write b o l = some g') :
    ∃ h', s.h.write b' o l' = some h' ∧ Good ⟨s.Z, s.p, g', h'⟩ ∧ PExt lo lov s ⟨s.Z, s.p, g', h'⟩ := by
  unfold PHeap.write at e
  split at e
  · next c anc log hx =>
    split at e
    · next hc =>
      cases e
      obtain ⟨hc, hn⟩ := hc
      obtain ⟨⟨body, own, anc'⟩, d, h1, h2, h3, h4⟩ := hs.cells hp hx rfl
      simp only at h3
      obtain ⟨ho, ha⟩ := h2.own rfl
      simp only at ho ha
      subst h3; subst ho
      have hlen := forall₂_len hl
      refine ⟨_, by simp only [Heap.write, h1]; rw [if_pos (by omega)], ?_, ?_⟩
      · exact ⟨turn_sim hs.toPSim ha hn hp (h2.thaw rfl) ⟨_, rfl, BR.over hc h4 hl, rfl, rfl, rfl, rfl⟩, turn_room hs.toRoom hp⟩
      · refine turn_ext hs.toPSim ha hp ⟨_, hx⟩ fun x x1 hx0 hx1 => ?_
        rw [hx] at hx0; cases hx0; cases hx1
        refine ⟨[(o, l.length)], rfl, fun y hy => ?_⟩
        rw [h1] at hy; cases hy
        refine ⟨_, rfl, fun h => (by cases h), fun _ _ => ⟨c, rfl⟩, fun l0 c0 m e1 e2 => ?_⟩
        cases e1; cases e2
        refine ⟨_, _, rfl, rfl, over_length hc, fun i hi => ?_⟩
        have := hi (o, l.length) (by simp)
        simp only at this
        rw [over_get hc, if_neg (by omega), Tr.get_putFrom, if_neg (by omega)]
        exact ⟨rfl, rfl⟩
    · cases e
  · cases e
theorem copied_sim {Z : ZM} {p : Ren} {c : List PV} {d : Tr SV} (hd : ∀ i x, c[i]? = some x → ∃ s, d.get (kn i) = some s ∧ VRel Z p x s) {o k : Nat} {new : List PV} {new' : List SV} (hl : All₂ (VRel Z p) new new')
    {body : PBody} (e : PHeap.copied c o k new = some body) : o + k ≤ c.length ∧ ∃ body', Heap.copied d c.length o k new' = some body' ∧ BR Z p body body' := by
  unfold PHeap.copied at e
  split at e
  · next hle =>
    cases e
    refine ⟨hle, ?_⟩
    have hlen := forall₂_len hl
    have htl : ((c.drop o).take k).length = k := by simp; omega
    have hex : ∃ body', Heap.copied d c.length o k new' = some body' := by
      unfold Heap.copied
      rw [if_pos hle]
      split
      · exact ⟨_, rfl⟩
      · obtain ⟨l', h1, _⟩ := readN_all (c := d) (R := VRel Z p) ((c.drop o).take k) o fun i x hi => by
          obtain ⟨h, _⟩ := drop_take_get c o k i x hi
          exact hd _ _ h
        rw [htl] at h1
        rw [h1]; exact ⟨_, rfl⟩
    obtain ⟨body', hb⟩ := hex
    refine ⟨body', hb, ?_⟩
    obtain ⟨_, c', rfl, h2, h3⟩ := copied_spec hb
    refine ⟨by simp only [List.length_append, htl, hlen], fun i x hx => ?_⟩
    by_cases hi : i < k
    · rw [List.getElem?_append_left (by omega)] at hx
      rw [h2 i hi]
      exact hd _ _ (drop_take_get c o k i x hx).1
    · rw [List.getElem?_append_right (by omega), htl] at hx
      obtain ⟨v, h4, h5⟩ := forall₂_get hl _ hx
      have : i - k < new'.length := (List.getElem?_eq_some_iff.1 h4).1
      refine ⟨v, ?_, h5⟩
      rw [← h4, ← h3 (i - k) this]; congr 2; omega
  · cases e
theorem renew_sim (hs : Good s) {b b' : Key} (hp : s.p b = some b') {o k : Nat} {new : List PV} {new' : List SV} (hl : All₂ (VRel s.Z s.p) new new') {c : Key} {g' : PHeap} (e : s.g.renew b o k new = some (c, g')) :
    ∃ h' p', s.h.renew b' o k new' = some (s.h.next, h') ∧ c = s.g.next ∧ Good ⟨s.Z, p', g', h'⟩ ∧ PExt s.g.next.toNat s.h.next.toNat s ⟨s.Z, p', g', h'⟩ ∧ p' c = some s.h.next := by
  unfold PHeap.renew at e
  split at e
  · next h0 =>
    cases e
    obtain ⟨h1, h2⟩ := new_good hs (body := .cells new) (own := true) (anc := []) (y := ⟨Body.ofList new', true, []⟩) (BR.list (forall₂_mono hl fun _ _ h => h.mono (fun _ _ h => h) hs.free.le)) fun _ => ⟨rfl, .nil⟩
    exact ⟨_, _, by simp [Heap.renew, h0, Heap.new], rfl, h1, h2, Ren.set_same _ _ _⟩
  · next h0 =>
    split at e
    · next c0 hc =>
      split at e
      · next body hb =>
        cases e
        obtain ⟨own, frz, anc, log, hx⟩ := cells_there hc
        obtain ⟨⟨body0, own', anc'⟩, d, h1, h2, h3, h4⟩ := hs.cells hp hx rfl
        simp only at h3; subst h3
        obtain ⟨_, body', h5, h6⟩ := copied_sim h4 hl hb
        obtain ⟨h7, h8⟩ := new_good hs (body := body) (own := true) (anc := []) (y := ⟨body', true, []⟩) (h6.mono (fun _ _ h => h) hs.free.le) fun _ => ⟨rfl, .nil⟩
        exact ⟨_, _, by simp [Heap.renew, h0, Heap.cells, h1, h5, Heap.new], rfl, h7, h8, Ren.set_same _ _ _⟩
      · cases e
    · cases e
theorem unown_sim (hs : PSim s) {b b' : Key} (hp : s.p b = some b') {x : PBlk} {y : Blk} (hx : s.g.get b = some x) (hy : s.h.get b' = some y) :
    PSim ⟨s.Z, s.p, s.g.upd b (some { x with own := false }), s.h.upd b' (some { y with own := false })⟩ where
  inj := hs.inj
  blk k x1 h1 := by
    simp only at h1 ⊢
    rw [pget_upd] at h1
    by_cases e : b = k
    · subst e
      simp only [if_true, Option.some.injEq] at h1
      subst h1
      obtain ⟨c, y1, h2, h3, h4⟩ := hs.blk b x hx
      rw [hp] at h2; cases h2
      rw [hy] at h3; cases h3
      exact ⟨b', { y with own := false }, hp, by rw [get_upd]; simp, h4.body, fun h => (by cases h), h4.thaw, h4.frz⟩
    · simp only [e, if_false] at h1
      obtain ⟨c, y1, h2, h3, h4⟩ := hs.blk k x1 h1
      have hne : b' ≠ c := fun e' => e (hs.inj b k c (e' ▸ hp) h2)
      exact ⟨c, y1, h2, by rw [get_upd]; simp [hne, h3], h4⟩
  z c body hc := by
    simp only at hc ⊢
    obtain ⟨y1, h1, h2⟩ := hs.z c body hc
    rw [get_upd]
    by_cases e : b' = c
    · subst e; rw [hy] at h1; cases h1; exact ⟨{ y with own := false }, by simp, h2⟩
    · simp only [e, if_false]; exact ⟨y1, h1, h2⟩
  dead k c h1 h2 := by
    simp only at h1 h2 ⊢
    rw [pget_upd] at h2
    by_cases e : b = k
    · simp [e] at h2
    · simp only [e, if_false] at h2
      have hne : b' ≠ c := fun e' => e (hs.inj b k c (e' ▸ hp) h1)
      rw [get_upd]; simp only [hne, if_false]
      exact hs.dead k c h1 h2
theorem unown_ext (hs : PSim s) {lo lov : Nat} {b b' : Key} (hp : s.p b = some b') {x : PBlk} {y : Blk} (hx : s.g.get b = some x) (hy : s.h.get b' = some y) :
    PExt lo lov s ⟨s.Z, s.p, s.g.upd b (some { x with own := false }), s.h.upd b' (some { y with own := false })⟩ where
  nx := by simp [PHeap.upd, Heap.upd]
  zle _ _ h := h
  ple _ _ h := h
  newk _ _ h := .inl h
  newz b c h := .inl (by simp only at h; rw [h]; simp)
  frame c hc hn := by
    simp only
    have hne : b' ≠ c := fun e => hn b (e ▸ hp)
    rw [get_upd]; simp [hne]
  gone k c h1 h2 := by
    simp only
    rw [pget_upd]
    by_cases e : b = k
    · subst e; rw [hx] at h2; cases h2
    · simp [e, h2]
  log k x0 x1 h1 h2 := by
    simp only at h2 ⊢
    rw [pget_upd] at h2
    by_cases e : b = k
    · subst e
      rw [hx] at h1; cases h1
      simp only [if_true, Option.some.injEq] at h2
      subst h2
      refine ⟨[], rfl, fun c y1 hc hy1 => ?_⟩
      rw [hp] at hc; cases hc
      rw [hy] at hy1; cases hy1
      exact ⟨{ y with own := false }, by rw [get_upd]; simp, Keep.refl _ _⟩
    · simp only [e, if_false] at h2
      rw [h1] at h2; cases h2
      refine ⟨[], rfl, fun c y1 hc hy1 => ⟨y1, ?_, Keep.refl _ _⟩⟩
      have hne : b' ≠ c := fun e' => e (hs.inj b k c (e' ▸ hp) hc)
      rw [get_upd]; simp [hne, hy1]
theorem grow_sim (hs : Good s) {b b' : Key} (hp : s.p b = some b') {o k : Nat} {new : List PV} {new' : List SV} (hl : All₂ (VRel s.Z s.p) new new') {c : Key} {g' : PHeap} (e : s.g.grow b o k new = some (c, g')) :
    ∃ h' p', s.h.grow b' o k new' = some (s.h.next, h') ∧ c = s.g.next ∧ Good ⟨s.Z, p', g', h'⟩ ∧ PExt s.g.next.toNat s.h.next.toNat s ⟨s.Z, p', g', h'⟩ ∧ p' c = some s.h.next := by
  unfold PHeap.grow at e
  split at e
  · next c0 frz anc log hx =>
    split at e
    · next body hb =>
      obtain ⟨⟨body0, own', anc'⟩, d, h1, h2, h3, h4⟩ := hs.cells hp hx rfl
      simp only at h3; subst h3
      obtain ⟨ho, ha⟩ := h2.own rfl
      simp only at ho ha
      subst ho
      obtain ⟨_, body', h5, h6⟩ := copied_sim h4 hl hb
      split at e
      · next ht =>
        cases e
        have g1 : Good ⟨s.Z, s.p, s.g.upd b (some ⟨.cells c0, false, frz, anc, log⟩), s.h.upd b' (some ⟨.cells d c0.length, false, anc'⟩)⟩ :=
          ⟨unown_sim hs.toPSim hp hx h1, ⟨hs.pk, hs.zr, fun c hc => by
            have hlt := (hs.pk b b' hp).2
            have hc : s.h.next.toNat ≤ c.toNat := hc
            have hne : b' ≠ c := by rintro rfl; omega
            simp only
            rw [get_upd]; simp only [hne, if_false]
            exact hs.top c hc⟩⟩
        have g2 := unown_ext hs.toPSim (lo := s.g.next.toNat) (lov := s.h.next.toNat) hp hx h1
        obtain ⟨h7, h8⟩ := new_good g1 (body := body) (own := true) (anc := b :: anc) (y := ⟨body', true, b' :: anc'⟩) (h6.mono (fun _ _ h => h) g1.free.le) fun _ => ⟨rfl, .cons hp ha⟩
        exact ⟨_, _, by simp only [Heap.grow, h1, h5]; rw [if_pos ht], rfl, h7, g2.trans hs.toPSim h8 (Nat.le_refl _) (Nat.le_refl _), Ren.set_same _ _ _⟩
      · next ht =>
        split at e
        · next hf =>
          cases e
          obtain ⟨hf, hn⟩ := hf
          have g1 : Good ⟨s.Z, s.p, (s.g.killAll anc).upd b none, (s.h.killAll anc').upd b' none⟩ := ⟨turn_sim hs.toPSim ha hn hp (h2.thaw hf) rfl, turn_room hs.toRoom hp⟩
          have g2 := turn_ext hs.toPSim (lo := s.g.next.toNat) (lov := s.h.next.toNat) ha hp (x' := none) (y' := none) ⟨_, hx⟩ fun x x1 _ h => by cases h
          obtain ⟨h7, h8⟩ := new_good g1 (body := body) (own := true) (anc := []) (y := ⟨body', true, []⟩) (h6.mono (fun _ _ h => h) g1.free.le) fun _ => ⟨rfl, .nil⟩
          have n1 : ((s.g.killAll anc).upd b none).next = s.g.next := by simp [PHeap.upd, pkillAll_next]
          have n2 : ((s.h.killAll anc').upd b' none).next = s.h.next := by simp [Heap.upd, killAll_next]
          refine ⟨_, _, by simp only [Heap.grow, h1, h5]; rw [if_neg ht], rfl, h7, g2.trans hs.toPSim h8 ?_ ?_, ?_⟩
          · rw [n1]; exact Nat.le_refl _
          · rw [n2]; exact Nat.le_refl _
          · have := Ren.set_same s.p ((s.g.killAll anc).upd b none).next ((s.h.killAll anc').upd b' none).next
            rw [n2] at this
            rw [n1] at this ⊢
            rw [n2]
            exact this
        · cases e
    · cases e
  · cases e
end Go.Pv
end
section
namespace Go.Pv
open Go.Vm
open Go.Vm.Key (kn)
variable {Z : ZM} {p : Ren}
theorem AR.s {x : PV} {y : AV} (h : AR Z p (.v (.s x)) y) : ∃ z, y = .v (.s z) ∧ VRel Z p x z := by
  cases y with
  | v y => cases y with
    | s z => exact ⟨z, rfl, h⟩
    | agg l => exact absurd h id
  | tup l => exact absurd h id
theorem AR.agg {x : List PV} {y : AV} (h : AR Z p (.v (.agg x)) y) : ∃ z, y = .v (.agg z) ∧ All₂ (VRel Z p) x z := by
  cases y with
  | v y => cases y with
    | s z => exact absurd h id
    | agg l => exact ⟨l, rfl, h⟩
  | tup l => exact absurd h id
theorem AR.cv {x : PC} {y : AV} (h : AR Z p (.v x) y) : ∃ z, y = .v z ∧ CR Z p x z := by
  cases y with
  | v y => exact ⟨y, rfl, h⟩
  | tup l => exact absurd h id
theorem AR.tup' {x : List PC} {y : AV} (h : AR Z p (.tup x) y) : ∃ z, y = .tup z ∧ All₂ (CR Z p) x z := by
  cases y with
  | v y => exact absurd h id
  | tup l => exact ⟨l, rfl, h⟩
theorem CR.cells {x : PC} {y : CV} (h : CR Z p x y) : All₂ (VRel Z p) x.cells y.cells := by
  cases x <;> cases y <;> simp only [CR] at h
  · exact .cons h .nil
  · exact h
theorem All₂.one {α β : Type} {R : α → β → Prop} {a : α} {m : List β} (h : All₂ R [a] m) : ∃ b, m = [b] ∧ R a b := by
  cases h with | cons h t => cases t; exact ⟨_, rfl, h⟩
theorem All₂.two {α β : Type} {R : α → β → Prop} {a a' : α} {m : List β} (h : All₂ R [a, a'] m) : ∃ b b', m = [b, b'] ∧ R a b ∧ R a' b' := by
  cases h with | cons h t => obtain ⟨_, rfl, h'⟩ := All₂.one t; exact ⟨_, _, rfl, h, h'⟩
theorem All₂.three {α β : Type} {R : α → β → Prop} {a a' a'' : α} {m : List β} (h : All₂ R [a, a', a''] m) : ∃ b b' b'', m = [b, b', b''] ∧ R a b ∧ R a' b' ∧ R a'' b'' := by
  cases h with | cons h t => obtain ⟨_, _, rfl, h', h''⟩ := All₂.two t; exact ⟨_, _, _, rfl, h, h', h''⟩
theorem QRel.int' {k : IntKind} {n : Int} {y : SV} (h : QRel Z (.int k n) y) : y = .int k n := by cases h; rfl
theorem QRel.bool' {b : Bool} {y : SV} (h : QRel Z (.bool b) y) : y = .bool b := by cases h; rfl
theorem QRel.str' {l : List Nat} {y : SV} (h : QRel Z (.str l) y) : y = .str l := by cases h; rfl
theorem QRel.nilp' {y : SV} (h : QRel Z .nilp y) : y = .nilp := by cases h; rfl
theorem QRel.nils' {y : SV} (h : QRel Z .nils y) : y = .nils := by cases h; rfl
theorem QRel.nilm' {y : SV} (h : QRel Z .nilm y) : y = .nilm := by cases h; rfl
theorem QRel.nilf' {y : SV} (h : QRel Z .nilf y) : y = .nilf := by cases h; rfl
theorem AR.mkS {x : PV} {z : SV} (h : VRel Z p x z) : AR Z p (.v (.s x)) (.v (.s z)) := h
theorem AR.mkG {x : List PV} {z : List SV} (h : All₂ (VRel Z p) x z) : AR Z p (.v (.agg x)) (.v (.agg z)) := h
theorem AR.mkV {x : PC} {z : CV} (h : CR Z p x z) : AR Z p (.v x) (.v z) := h
theorem AR.mkT {x : List PC} {z : List CV} (h : All₂ (CR Z p) x z) : AR Z p (.tup x) (.tup z) := h
theorem ofSV_rel {x : SV} {v : PV} (h : ofSV x = some v) : QRel Z v x := by
  unfold ofSV at h
  split at h <;> cases h <;> constructor
theorem ofSVs_rel : ∀ {x : List SV} {v : List PV}, ofSVs x = some v → All₂ (VRel Z p) v x
  | [], v, h => by cases h; exact .nil
  | a :: l, v, h => by
    unfold ofSVs at h
    split at h
    · next y hy =>
      split at h
      · next ys hys => cases h; exact .cons (ofSV_rel hy).v (ofSVs_rel hys)
      · cases h
    · cases h
theorem ofCV_rel {x : CV} {v : PC} (h : ofCV x = some v) : CR Z p v x := by
  unfold ofCV at h
  split at h
  · split at h
    · next hy => cases h; exact (ofSV_rel hy).v
    · cases h
  · split at h
    · next hy => cases h; exact ofSVs_rel hy
    · cases h
theorem ofAV_rel {x : AV} {v : PA} (h : ofAV x = some v) : AR Z p v x := by
  unfold ofAV at h
  split at h
  · split at h
    · next hy => cases h; exact ofCV_rel hy
    · cases h
  · cases h
theorem toSV_rel {v : PV} {x u : SV} (h : toSV v = some x) (hv : VRel Z p v u) : u = x := by
  unfold toSV at h
  split at h <;> cases h
  · exact (QRel.bool' hv)
  · exact (QRel.int' hv)
  · exact (QRel.str' hv)
theorem toSVs_rel : ∀ {v : List PV} {x u : List SV}, toSVs v = some x → All₂ (VRel Z p) v u → u = x
  | [], x, u, h, hv => by cases h; cases hv; rfl
  | a :: l, x, u, h, hv => by
    unfold toSVs at h
    cases hv with
    | cons h1 h2 =>
    split at h
    · next y hy =>
      split at h
      · next ys hys => cases h; rw [toSV_rel hy h1, toSVs_rel hys h2]
      · cases h
    · cases h
theorem toCV_rel {v : PC} {x u : CV} (h : toCV v = some x) (hv : CR Z p v u) : u = x := by
  unfold toCV at h
  split at h
  · split at h
    · next hy =>
      cases h
      cases u with
      | s u => rw [toSV_rel hy hv]
      | agg l => exact absurd hv id
    · cases h
  · split at h
    · next hy =>
      cases h
      cases u with
      | s u => exact absurd hv id
      | agg l => rw [toSVs_rel hy hv]
    · cases h
def QSim (f : List PA → PHeap → PR) (r : List AV → Heap → R) : Prop := ∀ s : Sta, PSim s → ∀ (args : List PA) (vs : List AV) (v : PA) (g' : PHeap), All₂ (AR s.Z s.p) args vs → f args s.g = some (v, g') →
  g' = s.g ∧ ∃ u, r vs s.h = some (u, s.h) ∧ AR s.Z s.p v u
theorem mov_q : QSim pMov rMov := by
  intro s hs args vs v g' ha e
  unfold pMov at e
  split at e
  · obtain ⟨y, rfl, h⟩ := All₂.one ha
    cases e; exact ⟨rfl, _, rfl, h⟩
  · cases e
theorem pick_q : QSim pPick rPick := by
  intro s hs args vs v g' ha e
  unfold pPick at e
  split at e
  · obtain ⟨c, a, b, rfl, h1, h2, h3⟩ := All₂.three ha
    obtain ⟨z, rfl, hz⟩ := h1.s
    cases (QRel.bool' hz)
    cases e
    refine ⟨rfl, _, rfl, ?_⟩
    split <;> assumption
  · cases e
theorem lay_rel : ∀ {ps : List (Nat × Nat)} {cs : List PV} {cs' : List SV} {xs : List PA} {ys : List AV} {r : List PV}, All₂ (VRel Z p) cs cs' → All₂ (AR Z p) xs ys → layP cs ps xs = some r →
    ∃ r', layParts cs' ps ys = some r' ∧ All₂ (VRel Z p) r r'
  | [], cs, cs', xs, ys, r, hc, hx, e => by
    cases xs with
    | nil => cases hx; simp only [layP, Option.some.injEq] at e; subst e; exact ⟨_, rfl, hc⟩
    | cons x l => simp [layP] at e
  | (o, n) :: ps, cs, cs', xs, ys, r, hc, hx, e => by
    cases xs with
    | nil => simp [layP] at e
    | cons x l =>
      cases hx with
      | cons h1 h2 =>
      cases x with
      | tup _ => simp [layP] at e
      | v x =>
        obtain ⟨y, rfl, hy⟩ := h1.cv
        simp only [layP] at e
        split at e
        · next hle =>
          have hl := forall₂_len hy.cells
          have hl' := forall₂_len hc
          obtain ⟨r', h3, h4⟩ := lay_rel (cs' := cs'.take o ++ y.cells ++ cs'.drop (o + n)) (by
            unfold PHeap.over
            rw [hle.1]
            exact forall₂_append (forall₂_append (forall₂_take _ hc) hy.cells) (forall₂_drop _ hc)) h2 e
          refine ⟨r', ?_, h4⟩
          simp only [layParts]
          rw [if_pos ⟨by omega, by omega⟩]
          exact h3
        · cases e
theorem build_q (zero : List SV) (places : List (Nat × Nat)) : QSim (pBuild zero places) (rBuild zero places) := by
  intro s hs args vs v g' ha e
  unfold pBuild at e
  split at e
  · next z hz =>
    split at e
    · next cs hcs =>
      cases e
      obtain ⟨r', h1, h2⟩ := lay_rel (ofSVs_rel hz) ha hcs
      exact ⟨rfl, _, by simp only [rBuild, h1], .mkG h2⟩
    · cases e
  · cases e
theorem load1_q : QSim pLoad1 rLoad1 := by
  intro s hs args vs v g' ha e
  unfold pLoad1 at e
  split at e
  · obtain ⟨y, rfl, h⟩ := All₂.one ha
    obtain ⟨z, rfl, b', hp, rfl⟩ := h.s
    split at e
    · next x hr =>
      cases e
      obtain ⟨l', h1, h2⟩ := read_sim hs hp hr
      obtain ⟨w, rfl, h3⟩ := All₂.one h2
      exact ⟨rfl, _, by simp only [rLoad1, h1], .mkS h3⟩
    · cases e
  · next x l =>
    obtain ⟨y, rfl, h⟩ := All₂.one ha
    obtain ⟨z, rfl, hz⟩ := h.s
    obtain ⟨b, o, f, rfl, h1, h2⟩ := QRel.rp' hz
    cases e
    have := read_z hs h1 0 1 (by simp)
    simp only [Nat.add_zero, tab] at this
    exact ⟨rfl, _, by simp only [rLoad1, this], .mkS (h2 0 _ rfl).v⟩
  · cases e
theorem take_rel {l : List PV} {n : Nat} {f : Nat → SV} (hn : n ≤ l.length) (h : ∀ (j : Nat) (x : PV), l[j]? = some x → QRel Z x (f j)) : All₂ (VRel Z p) (l.take n) (tab f n) := by
  have := rel_tab (R := VRel Z p) (l.take n) f fun j x hx => by
    rw [List.getElem?_take] at hx
    split at hx
    · exact (h j x hx).v
    · cases hx
  rw [show (l.take n).length = n by simp; omega] at this
  exact this
theorem loadn_q (n : Nat) : QSim (pLoadn n) (rLoadn n) := by
  intro s hs args vs v g' ha e
  unfold pLoadn at e
  split at e
  · obtain ⟨y, rfl, h⟩ := All₂.one ha
    obtain ⟨z, rfl, b', hp, rfl⟩ := h.s
    split at e
    · next x hr =>
      cases e
      obtain ⟨l', h1, h2⟩ := read_sim hs hp hr
      exact ⟨rfl, _, by simp only [rLoadn, h1], .mkG h2⟩
    · cases e
  · next l =>
    obtain ⟨y, rfl, h⟩ := All₂.one ha
    obtain ⟨z, rfl, hz⟩ := h.s
    obtain ⟨b, o, f, rfl, h1, h2⟩ := QRel.rp' hz
    split at e
    · next hn =>
      cases e
      have := read_z hs h1 0 n (by omega)
      simp only [Nat.add_zero, Nat.zero_add] at this
      exact ⟨rfl, _, by simp only [rLoadn, this], .mkG (take_rel hn h2)⟩
    · cases e
  · cases e
theorem nilchk_q : QSim pNilchk rNilchk := by
  intro s hs args vs v g' ha e
  unfold pNilchk at e
  split at e
  · obtain ⟨y, rfl, h⟩ := All₂.one ha
    obtain ⟨z, rfl, b', hp, rfl⟩ := h.s
    cases e
    exact ⟨rfl, _, rfl, h⟩
  · obtain ⟨y, rfl, h⟩ := All₂.one ha
    obtain ⟨z, rfl, hz⟩ := h.s
    obtain ⟨b, o, f, rfl, h1, h2⟩ := QRel.rp' hz
    cases e
    exact ⟨rfl, _, rfl, h⟩
  · obtain ⟨y, rfl, h⟩ := All₂.one ha
    obtain ⟨z, rfl, fs', cs', rfl, h1, h2⟩ := h.s
    cases e
    exact ⟨rfl, _, rfl, h⟩
  · cases e
theorem bin_rel {b : BinOp} {x y v : PV} {x' y' : SV} (hx : VRel Z p x x') (hy : VRel Z p y y') (e : binP b x y = some v) : ∃ r, binSV b x' y' = some r ∧ VRel Z p v r := by
  unfold binP at e
  split at e
  · cases (QRel.int' hx); cases (QRel.int' hy)
    split at e
    · next r hr => exact ⟨r, by simp only [binSV]; exact hr, (ofSV_rel e).v⟩
    · cases e
  · cases (QRel.str' hx); cases (QRel.str' hy)
    split at e
    · next r hr => exact ⟨r, by simp only [binSV]; exact hr, (ofSV_rel e).v⟩
    · cases e
  · cases e
theorem bin_q (b : BinOp) : QSim (pBin b) (rBin b) := by
  intro s hs args vs v g' ha e
  unfold pBin at e
  split at e
  · next x y =>
    obtain ⟨x', y', rfl, h1, h2⟩ := All₂.two ha
    obtain ⟨x', rfl, h1⟩ := h1.s
    obtain ⟨y', rfl, h2⟩ := h2.s
    cases hb : binP b x y with
    | none => simp [hb, noPS] at e
    | some w =>
      simp only [hb, noPS, Option.some.injEq, Prod.mk.injEq] at e
      obtain ⟨rfl, rfl⟩ := e
      obtain ⟨r, h3, h4⟩ := bin_rel h1 h2 hb
      exact ⟨rfl, _, by simp only [rBin, h3, noHeapS], .mkS h4⟩
  · cases e
theorem eq_rel {k : EqK} {x y : PC} {r : Bool} {x' y' : CV} (hx : CR Z p x x') (hy : CR Z p y y') (e : eqP k x y = some r) : eqSV k x' y' = some r := by
  have key : ∀ {a : PV} {c : CV}, CR Z p (.s a) c → ∃ z, c = .s z ∧ VRel Z p a z := by
    intro a c h
    cases c with
    | s z => exact ⟨z, rfl, h⟩
    | agg l => exact absurd h id
  unfold eqP at e
  split at e
  case h_18 ks a b =>
    cases x' with
    | s _ => exact absurd hx id
    | agg a' =>
      cases y' with
      | s _ => exact absurd hy id
      | agg b' =>
        split at e
        · next a2 b2 h1 h2 => rw [toSVs_rel h1 hx, toSVs_rel h2 hy]; exact e
        · cases e
  case h_19 => cases e
  all_goals
    obtain ⟨x', rfl, hx⟩ := key hx
    obtain ⟨y', rfl, hy⟩ := key hy
  case h_1 => cases (QRel.bool' hx); cases (QRel.bool' hy); exact e
  case h_2 => cases (QRel.nilp' hx); cases (QRel.nilp' hy); exact e
  case h_3 => cases (QRel.nilp' hx); obtain ⟨_, _, rfl⟩ := hy; exact e
  case h_4 => cases (QRel.nilp' hy); obtain ⟨_, _, rfl⟩ := hx; exact e
  case h_5 => cases (QRel.nilp' hx); obtain ⟨_, _, _, rfl, _⟩ := QRel.rp' hy; exact e
  case h_6 => cases (QRel.nilp' hy); obtain ⟨_, _, _, rfl, _⟩ := QRel.rp' hx; exact e
  case h_7 => cases (QRel.nils' hx); cases (QRel.nils' hy); exact e
  case h_8 => cases (QRel.nils' hx); obtain ⟨_, _, rfl⟩ := hy; exact e
  case h_9 => cases (QRel.nils' hy); obtain ⟨_, _, rfl⟩ := hx; exact e
  case h_10 => cases (QRel.nils' hx); obtain ⟨_, _, _, _, rfl, _⟩ := QRel.lst' hy; exact e
  case h_11 => cases (QRel.nils' hy); obtain ⟨_, _, _, _, rfl, _⟩ := QRel.lst' hx; exact e
  case h_12 => cases (QRel.nilm' hx); cases (QRel.nilm' hy); exact e
  case h_13 => cases (QRel.nilm' hx); obtain ⟨_, _, rfl⟩ := hy; exact e
  case h_14 => cases (QRel.nilm' hy); obtain ⟨_, _, rfl⟩ := hx; exact e
  case h_15 => cases (QRel.nilf' hx); cases (QRel.nilf' hy); exact e
  case h_16 => cases (QRel.nilf' hx); obtain ⟨_, _, rfl, _⟩ := hy; exact e
  case h_17 => cases (QRel.nilf' hy); obtain ⟨_, _, rfl, _⟩ := hx; exact e
theorem eq_q (neg : Bool) (k : EqK) : QSim (pEq neg k) (rEq neg k) := by
  intro s hs args vs v g' ha e
  unfold pEq at e
  split at e
  · obtain ⟨x', y', rfl, h1, h2⟩ := All₂.two ha
    obtain ⟨x', rfl, h1⟩ := h1.cv
    obtain ⟨y', rfl, h2⟩ := h2.cv
    split at e
    · next r hr =>
      cases e
      exact ⟨rfl, _, by simp only [rEq, eq_rel h1 h2 hr], .mkS (QRel.bool _)⟩
    · cases e
  · cases e
theorem un_q (u : UnOp) : QSim (pUn u) (rUn u) := by
  intro s hs args vs v g' ha e
  unfold pUn at e
  split at e
  · next x =>
    obtain ⟨x', rfl, h1⟩ := All₂.one ha
    obtain ⟨x', rfl, h1⟩ := h1.s
    cases hb : unP u x with
    | none => simp [hb, noPS] at e
    | some w =>
      simp only [hb, noPS, Option.some.injEq, Prod.mk.injEq] at e
      obtain ⟨rfl, rfl⟩ := e
      unfold unP at hb
      split at hb
      · next y hy =>
        split at hb
        · next r hr =>
          cases toSV_rel hy h1
          exact ⟨rfl, _, by simp only [rUn, hr, noHeapS], .mkS (ofSV_rel hb).v⟩
        · cases hb
      · cases hb
  · cases e
theorem conv_q (k : IntKind) : QSim (pConv k) (rConv k) := by
  intro s hs args vs v g' ha e
  unfold pConv at e
  split at e
  · obtain ⟨x', rfl, h1⟩ := All₂.one ha
    obtain ⟨x', rfl, h1⟩ := h1.s
    cases (QRel.int' h1)
    cases e
    exact ⟨rfl, _, rfl, .mkS (QRel.int _ _)⟩
  · cases e
theorem ptrs_rel : ∀ {xs : List PA} {ys : List AV} {l : List (Key × Nat)}, All₂ (AR Z p) xs ys → ptrsP xs = some l → ∃ l', ptrs ys = some l' ∧ All₂ (KRel p) l l'
  | [], ys, l, h, e => by cases h; cases e; exact ⟨[], rfl, .nil⟩
  | x :: xs, ys, l, h, e => by
    unfold ptrsP at e
    split at e
    · next h0 => cases h0
    · next h0 =>
      cases h0
      cases h with
      | cons h1 h2 =>
      split at e
      · next r hr =>
        cases e
        obtain ⟨z, rfl, b', hp, rfl⟩ := h1.s
        obtain ⟨l', h3, h4⟩ := ptrs_rel h2 hr
        exact ⟨(b', _) :: l', by simp only [ptrs, h3], .cons ⟨hp, rfl⟩ h4⟩
      · cases e
    · cases e
theorem mkfunc_q (f n : Nat) : QSim (pMkfunc f n) (rMkfunc f n) := by
  intro s hs args vs v g' ha e
  unfold pMkfunc at e
  split at e
  · next l hl =>
    cases e
    obtain ⟨l', h1, h2⟩ := ptrs_rel ha hl
    exact ⟨rfl, _, by simp only [rMkfunc, h1], .mkS ⟨_, _, rfl, forall₂_take _ h2, forall₂_drop _ h2⟩⟩
  · cases e
theorem pop_rel {b : Bool} {xs : List PA} {ys : List AV} (h : All₂ (AR Z p) xs ys) {a : Option Int} {xs' : List PA} (e : popP b xs = some (a, xs')) : ∃ ys', popInt b ys = some (a, ys') ∧ All₂ (AR Z p) xs' ys' := by
  unfold popP at e
  split at e
  · cases e; exact ⟨ys, rfl, h⟩
  · cases e
    cases h with
    | cons h1 h2 =>
    obtain ⟨z, rfl, hz⟩ := h1.s
    cases (QRel.int' hz)
    exact ⟨_, rfl, h2⟩
  · cases e
theorem opt_rel {lo hi mx : Bool} {xs : List PA} {ys : List AV} (h : All₂ (AR Z p) xs ys) {bs : Option Int × Option Int × Option Int} (e : optP lo hi mx xs = some bs) : optArgs lo hi mx ys = some bs := by
  unfold optP at e
  split at e
  · next a xs1 h1 =>
    obtain ⟨ys1, h2, h3⟩ := pop_rel h h1
    split at e
    · next b xs2 h4 =>
      obtain ⟨ys2, h5, h6⟩ := pop_rel h3 h4
      split at e
      · next c h7 =>
        cases e
        obtain ⟨ys3, h8, h9⟩ := pop_rel h6 h7
        cases h9
        simp only [optArgs, h2, h5, h8]
      · cases e
    · cases e
  · cases e
theorem bnd_le {x : Option Int} {top d m : Nat} (h : bnd x top d = some m) : (x = none ∧ m = d) ∨ (∃ v, x = some v ∧ 0 ≤ v ∧ v ≤ (top : Int) ∧ m = v.toNat) := by
  unfold bnd at h
  split at h
  · cases h; exact .inl ⟨rfl, rfl⟩
  · next v =>
    split at h
    · next hv => cases h; exact .inr ⟨v, rfl, hv.1, hv.2, rfl⟩
    · cases h
theorem bnd_none (top d : Nat) : bnd none top d = some d := rfl
theorem bnd_some {v : Int} {top : Nat} (d : Nat) (h : 0 ≤ v) (h' : v ≤ (top : Int)) : bnd (some v) top d = some v.toNat := by simp [bnd, h, h']
theorem bounds_more {len : Nat} {bs : Option Int × Option Int × Option Int} {i n : Nat} {c0 : Option Nat} (e : bounds len none bs = some (i, n, c0)) {vcap : Option Nat} (hv : ∀ c, vcap = some c → len ≤ c) :
    i + n ≤ len ∧ ∃ vc, bounds len vcap bs = some (i, n, vc) ∧ (∀ m, bs.2.2 = some m → vc = some (m.toNat - i)) ∧ (bs.2.2 = none → vc = vcap.map (· - i)) := by
  obtain ⟨lo, hi, mx⟩ := bs
  have hge : len ≤ vcap.getD len := by
    cases vcap with
    | none => simp
    | some c => simpa using hv c rfl
  unfold bounds at e ⊢
  simp only [Option.getD_none, Option.isSome_none, Bool.or_false] at e ⊢
  cases h1 : bnd mx len len with
  | none => simp [h1] at e
  | some m =>
    simp only [h1] at e
    cases h2 : bnd hi m len with
    | none => simp [h2] at e
    | some h =>
      simp only [h2] at e
      cases h3 : bnd lo h 0 with
      | none => simp [h3] at e
      | some l =>
        simp only [h3, Option.some.injEq, Prod.mk.injEq] at e
        obtain ⟨rfl, rfl, _⟩ := e
        have hm := bnd_le h1
        have hh := bnd_le h2
        have hl := bnd_le h3
        have hmlen : m ≤ len := by
          rcases hm with ⟨_, rfl⟩ | ⟨v, _, h4, h5, rfl⟩
          · omega
          · omega
        have hhlen : h ≤ len := by
          rcases hh with ⟨_, rfl⟩ | ⟨v, _, h4, h5, rfl⟩
          · omega
          · omega
        have hlh : l ≤ h := by
          rcases hl with ⟨_, rfl⟩ | ⟨v, _, h4, h5, rfl⟩
          · omega
          · omega
        refine ⟨by omega, ?_⟩
        rcases hm with ⟨rfl, rfl⟩ | ⟨v, rfl, h4, h5, rfl⟩
        · rw [bnd_none]
          have : bnd hi (vcap.getD m) m = some h := by
            rcases hh with ⟨rfl, rfl⟩ | ⟨v, rfl, h4, h5, rfl⟩
            · rfl
            · exact bnd_some _ h4 (by omega)
          simp only [this, h3]
          refine ⟨_, rfl, fun m hm => (by cases hm), fun _ => ?_⟩
          cases vcap with
          | none => rfl
          | some c => simp
        · rw [bnd_some _ h4 (by omega)]
          simp only [h2, h3]
          refine ⟨_, rfl, fun m hm => ?_, fun h => by cases h⟩
          cases hm
          simp
theorem drop_mul {o i es : Nat} : o + i * es = o + i * es := rfl
theorem lst_part {es : Nat} {l : List (List PV)} {b : Key} {o : Nat} {f : Nat → SV} (he : ∀ e ∈ l, e.length = es) (hz : InZ Z b o (l.length * es) f)
    (h : ∀ (i : Nat) (e : List PV) (j : Nat) (x : PV), l[i]? = some e → e[j]? = some x → QRel Z x (f (i * es + j))) {i n : Nat} (hin : i + n ≤ l.length) {cap vcap : Option Nat} (hc : cap = none ∨ cap = vcap) (hl : ∀ c, vcap = some c → n ≤ c) :
    QRel Z (.lst es ((l.drop i).take n) cap) (.slice b (o + i * es) n es vcap) := by
  have hlen : ((l.drop i).take n).length = n := by simp; omega
  have := QRel.lst (Z := Z) (es := es) (l := (l.drop i).take n) (cap := cap) (b := b) (o := o + i * es) (vcap := vcap) (fun t => f (i * es + t)) hc (by rw [hlen]; exact hl)
    (fun e he' => he e (List.mem_of_mem_drop (List.mem_of_mem_take he'))) (by
      rw [hlen]
      intro hn
      have hle : (i + n) * es ≤ l.length * es := Nat.mul_le_mul_right _ hin
      rw [Nat.add_mul] at hle
      obtain ⟨c, m, h1, h2, h3⟩ := hz (by omega)
      refine ⟨c, m, h1, by omega, fun t ht => ?_⟩
      rw [← h3 (i * es + t) (by omega)]; congr 2; omega) (fun i' e j x hi hj => by
      rw [List.getElem?_take] at hi
      split at hi
      · rw [List.getElem?_drop] at hi
        have := h (i + i') e j x hi hj
        rw [Nat.add_mul, Nat.add_assoc] at this
        exact this
      · cases hi)
  rw [hlen] at this
  exact this
theorem slice_rel {es : Nat} {x v : PV} {x' : SV} {bs : Option Int × Option Int × Option Int} (hx : VRel Z p x x') (e : sliceP es x bs = some v) : ∃ r, sliceSV es x' bs = some r ∧ VRel Z p v r := by
  unfold sliceP at e
  split at e
  · cases (QRel.nils' hx)
    split at e
    · next hb => cases e; exact ⟨.nils, by simp only [sliceSV, hb], QRel.nils⟩
    · cases e
  · obtain ⟨b', hp, rfl⟩ := hx
    split at e
    · next he =>
      split at e
      · next hb => cases e; exact ⟨_, by simp only [sliceSV, if_pos he, hb], b', hp, rfl⟩
      · cases e
    · cases e
  · next l cap =>
    obtain ⟨b, o, vcap, f, rfl, hc, hl, he, hz, h⟩ := QRel.lst' hx
    split at e
    · next hes =>
      subst hes
      split at e
      · next i n c0 hb =>
        split at e
        · next hcap =>
          cases e
          obtain ⟨hin, vc, h1, h2, h3⟩ := bounds_more hb hl
          refine ⟨.slice b (o + i * es) n es vc, by simp only [sliceSV, if_true, h1], ?_⟩
          apply QRel.v (p := p)
          have hcc : lstCap i cap bs.2.2 = none ∨ lstCap i cap bs.2.2 = vc := by
            cases hm : bs.2.2 with
            | some m => exact .inr (by simp only [lstCap]; rw [h2 m hm])
            | none =>
              simp only [lstCap]
              cases cap with
              | none => exact .inl rfl
              | some c =>
                refine .inr ?_
                rw [h3 hm]
                rcases hc with hc | hc
                · cases hc
                · rw [← hc]; rfl
          refine lst_part he hz h hin hcc fun c hvc => ?_
          rcases hcc with hcc | hcc
          · cases hm : bs.2.2 with
            | some m => rw [hm] at hcc; simp [lstCap] at hcc
            | none =>
              rw [h3 hm] at hvc
              cases vcap with
              | none => cases hvc
              | some c' => simp at hvc; have := hl c' rfl; omega
          · rw [hcc, hvc] at hcap
            simpa [capFits] using hcap
        · cases e
      · cases e
    · cases e
  · cases e
theorem slice_q (k : SlK) (lo hi mx : Bool) : QSim (pSlice k lo hi mx) (rSlice k lo hi mx) := by
  intro s hs args vs v g' ha e
  unfold pSlice at e
  split at e
  · next x xs =>
    cases ha with
    | cons h1 h2 =>
    split at e
    · next bs hbs =>
      have hb := opt_rel h2 hbs
      split at e
      · obtain ⟨z, rfl, hz⟩ := h1.s
        cases (QRel.str' hz)
        split at e
        · cases e
        · next hmx =>
          split at e
          · next hbo => cases e; exact ⟨rfl, _, by simp only [rSlice, hb]; rw [if_neg hmx]; simp only [hbo], .mkS (QRel.str _)⟩
          · cases e
      · next es y =>
        obtain ⟨z, rfl, hz⟩ := h1.s
        cases hsl : sliceP es y bs with
        | none => simp [hsl, noPS] at e
        | some w =>
          simp only [hsl, noPS, Option.some.injEq, Prod.mk.injEq] at e
          obtain ⟨rfl, rfl⟩ := e
          obtain ⟨r, h3, h4⟩ := slice_rel hz hsl
          exact ⟨rfl, _, by simp only [rSlice, hb, h3, noHeapS], .mkS h4⟩
      · next n es b o =>
        obtain ⟨z, rfl, b', hp, rfl⟩ := h1.s
        cases hsl : sliceP es (.slice b o n es (some n)) bs with
        | none => simp [hsl, noPS] at e
        | some w =>
          simp only [hsl, noPS, Option.some.injEq, Prod.mk.injEq] at e
          obtain ⟨rfl, rfl⟩ := e
          obtain ⟨r, h3, h4⟩ := slice_rel (Z := s.Z) (p := s.p) (x' := .slice b' o n es (some n)) (show VRel s.Z s.p (.slice b o n es (some n)) _ from ⟨b', hp, rfl⟩) hsl
          exact ⟨rfl, _, by simp only [rSlice, hb, h3, noHeapS], .mkS h4⟩
      · cases e
    · cases e
  · cases e
theorem rp_drop {l : List PV} {b : Key} {o : Nat} {f : Nat → SV} (hz : InZ Z b o l.length f) (h : ∀ (j : Nat) (x : PV), l[j]? = some x → QRel Z x (f j)) (n : Nat) (hn : n ≤ l.length) : QRel Z (.rp (l.drop n)) (.ptr b (o + n)) := by
  refine QRel.rp (fun t => f (n + t)) (fun h0 => ?_) fun j x hj => ?_
  · simp only [List.length_drop] at h0 ⊢
    obtain ⟨c, m, h1, h2, h3⟩ := hz (by omega)
    exact ⟨c, m, h1, by omega, fun t ht => by rw [← h3 (n + t) (by omega)]; congr 2; omega⟩
  · rw [List.getElem?_drop] at hj; exact h _ x hj
theorem faddr_q (off : Nat) : QSim (pFaddr off) (rFaddr off) := by
  intro s hs args vs v g' ha e
  unfold pFaddr at e
  split at e
  · obtain ⟨y, rfl, h⟩ := All₂.one ha
    obtain ⟨z, rfl, b', hp, rfl⟩ := h.s
    cases e
    exact ⟨rfl, _, rfl, .mkS ⟨b', hp, rfl⟩⟩
  · obtain ⟨y, rfl, h⟩ := All₂.one ha
    obtain ⟨z, rfl, hz⟩ := h.s
    obtain ⟨b, o, f, rfl, h1, h2⟩ := QRel.rp' hz
    split at e
    · next hn => cases e; exact ⟨rfl, _, rfl, .mkS (rp_drop h1 h2 off hn).v⟩
    · cases e
  · cases e
theorem part_rel {cs : List PV} {cs' : List SV} (h : All₂ (VRel Z p) cs cs') {o : Nat} {m : Option Nat} {r : PC} (e : partP cs o m = some r) : ∃ r', partCV cs' o m = some r' ∧ CR Z p r r' := by
  unfold partP at e
  split at e
  · split at e
    · next x hx =>
      cases e
      obtain ⟨y, h1, h2⟩ := forall₂_get h _ hx
      exact ⟨.s y, by simp only [partCV, h1], h2⟩
    · cases e
  · next n =>
    split at e
    · next hn =>
      cases e
      have := forall₂_len h
      exact ⟨.agg ((cs'.drop o).take n), by simp only [partCV]; rw [if_pos (by omega)], forall₂_take _ (forall₂_drop _ h)⟩
    · cases e
theorem field_q (off : Nat) (n : Option Nat) : QSim (pField off n) (rField off n) := by
  intro s hs args vs v g' ha e
  unfold pField at e
  split at e
  · next cs =>
    obtain ⟨y, rfl, h⟩ := All₂.one ha
    obtain ⟨z, rfl, hz⟩ := h.agg
    cases hp : partP cs off n with
    | none => simp [hp, noP] at e
    | some w =>
      simp only [hp, noP, Option.some.injEq, Prod.mk.injEq] at e
      obtain ⟨rfl, rfl⟩ := e
      obtain ⟨r, h3, h4⟩ := part_rel hz hp
      exact ⟨rfl, _, by simp only [rField, h3, noHeap], .mkV h4⟩
  · cases e
theorem iarr_q (n es : Nat) : QSim (pIarr n es) (rIarr n es) := by
  intro s hs args vs v g' ha e
  unfold pIarr at e
  split at e
  · obtain ⟨y, i', rfl, h, hi⟩ := All₂.two ha
    obtain ⟨z, rfl, b', hp, rfl⟩ := h.s
    obtain ⟨i', rfl, hi⟩ := hi.s
    cases (QRel.int' hi)
    split at e
    · next hc => cases e; exact ⟨rfl, _, by simp only [rIarr]; rw [if_pos hc], .mkS ⟨b', hp, rfl⟩⟩
    · cases e
  · obtain ⟨y, i', rfl, h, hi⟩ := All₂.two ha
    obtain ⟨z, rfl, hz⟩ := h.s
    obtain ⟨i', rfl, hi⟩ := hi.s
    cases (QRel.int' hi)
    obtain ⟨b, o, f, rfl, h1, h2⟩ := QRel.rp' hz
    split at e
    · next hc => cases e; exact ⟨rfl, _, by simp only [rIarr]; rw [if_pos ⟨hc.1, hc.2.1⟩], .mkS (rp_drop h1 h2 _ hc.2.2).v⟩
    · cases e
  · cases e
theorem isl_q (es : Nat) : QSim (pIsl es) (rIsl es) := by
  intro s hs args vs v g' ha e
  unfold pIsl at e
  split at e
  · obtain ⟨y, i', rfl, h, hi⟩ := All₂.two ha
    obtain ⟨z, rfl, b', hp, rfl⟩ := h.s
    obtain ⟨i', rfl, hi⟩ := hi.s
    cases (QRel.int' hi)
    split at e
    · next hc => cases e; exact ⟨rfl, _, by simp only [rIsl]; rw [if_pos hc], .mkS ⟨b', hp, rfl⟩⟩
    · cases e
  · next es' l _ k i =>
    obtain ⟨y, i', rfl, h, hi⟩ := All₂.two ha
    obtain ⟨z, rfl, hz⟩ := h.s
    obtain ⟨i', rfl, hi⟩ := hi.s
    cases (QRel.int' hi)
    obtain ⟨b, o, vcap, f, rfl, _, _, he, hz, h⟩ := QRel.lst' hz
    split at e
    · next hc =>
      split at e
      · next el hel =>
        cases e
        obtain ⟨hlt, _⟩ := List.getElem?_eq_some_iff.1 hel
        obtain ⟨hes, h0⟩ := hc
        subst hes
        have hlen : el.length = es := he el (List.mem_of_getElem? hel)
        refine ⟨rfl, _, by simp only [rIsl, true_and]; rw [if_pos ⟨h0, by omega⟩], .mkS (QRel.v ?_)⟩
        refine QRel.rp (fun t => f (i.toNat * es + t)) (fun hn => ?_) fun j x hj => h _ _ _ _ hel hj
        rw [hlen] at hn ⊢
        have hle : (i.toNat + 1) * es ≤ l.length * es := Nat.mul_le_mul_right _ hlt
        rw [Nat.add_mul, Nat.one_mul] at hle
        obtain ⟨c, m, h1, h2, h3⟩ := hz (by omega)
        exact ⟨c, m, h1, by omega, fun t ht => by rw [← h3 (i.toNat * es + t) (by omega)]; congr 2; omega⟩
      · cases e
    · cases e
  · cases e
theorem idx_q (n es : Nat) (m : Option Nat) : QSim (pIdx n es m) (rIdx n es m) := by
  intro s hs args vs v g' ha e
  unfold pIdx at e
  split at e
  · next cs _ i =>
    obtain ⟨y, i', rfl, h, hi⟩ := All₂.two ha
    obtain ⟨z, rfl, hz⟩ := h.agg
    obtain ⟨i', rfl, hi⟩ := hi.s
    cases (QRel.int' hi)
    split at e
    · next hc =>
      cases hp : partP cs (i.toNat * es) m with
      | none => simp [hp, noP] at e
      | some w =>
        simp only [hp, noP, Option.some.injEq, Prod.mk.injEq] at e
        obtain ⟨rfl, rfl⟩ := e
        obtain ⟨r, h3, h4⟩ := part_rel hz hp
        exact ⟨rfl, _, by simp only [rIdx]; rw [if_pos hc]; simp only [h3, noHeap], .mkV h4⟩
    · cases e
  · cases e
theorem sidx_q : QSim pSidx rSidx := by
  intro s hs args vs v g' ha e
  unfold pSidx at e
  split at e
  · obtain ⟨y, i', rfl, h, hi⟩ := All₂.two ha
    obtain ⟨z, rfl, hz⟩ := h.s
    obtain ⟨i', rfl, hi⟩ := hi.s
    cases (QRel.int' hi); cases (QRel.str' hz)
    split at e
    · next hc =>
      split at e
      · next n hn => cases e; exact ⟨rfl, _, by simp only [rSidx]; rw [if_pos hc]; simp only [hn], .mkS (QRel.int _ _)⟩
      · cases e
    · cases e
  · cases e
theorem CR.s' {x : PV} {y : CV} (h : CR Z p (.s x) y) : ∃ z, y = .s z ∧ VRel Z p x z := by
  cases y with
  | s z => exact ⟨z, rfl, h⟩
  | agg l => exact absurd h id
theorem fits_rel {ks : KeyK} {k : PC} {k' : CV} (h : CR Z p k k') : keyFitsP ks k = keyFits ks k' := by
  cases k <;> cases k' <;> simp only [CR] at h
  · cases ks <;> rfl
  · cases ks
    · rfl
    · simp [keyFitsP, keyFits, forall₂_len h]
theorem eqKey_rel {ks : KeyK} {x y : PC} {x' y' : CV} (hx : CR Z p x x') (hy : CR Z p y y') {r : Bool} (e : eqKey ks x y = some r) : eqCV ks x' y' = some r := by
  unfold eqKey at e
  split at e
  · next h1 h2 => rw [toCV_rel h1 hx, toCV_rel h2 hy]; exact e
  · cases e
def MRel (Z : ZM) (p : Ren) (x : PC × PC) (y : CV × CV) : Prop := CR Z p x.1 y.1 ∧ CR Z p x.2 y.2
theorem find_rel {ks : KeyK} {k : PC} {k' : CV} (hk : CR Z p k k') : ∀ {l : List (PC × PC)} {m : List (CV × CV)} {r : Option PC}, All₂ (MRel Z p) l m → findP ks k l = some r →
    ∃ r', findCV ks k' m = some r' ∧ (match r, r' with | some a, some b => CR Z p a b | none, none => True | _, _ => False)
  | [], m, r, h, e => by cases h; cases e; exact ⟨none, rfl, trivial⟩
  | (x, v) :: l, m, r, h, e => by
    cases h with
    | cons h1 h2 =>
    rename_i y m
    obtain ⟨y, w⟩ := y
    unfold findP at e
    split at e
    · next h0 =>
      cases e
      exact ⟨some w, by simp only [findCV, eqKey_rel hk h1.1 h0], h1.2⟩
    · next h0 =>
      obtain ⟨r', h3, h4⟩ := find_rel hk h2 e
      exact ⟨r', by simp only [findCV, eqKey_rel hk h1.1 h0, h3], h4⟩
    · cases e
theorem lookup_q (ks : KeyK) (zero : CV) (ok : Bool) : QSim (pLookup ks zero ok) (rLookup ks zero ok) := by
  intro s hs args vs v g' ha e
  unfold pLookup at e
  split at e
  · obtain ⟨y, k', rfl, h, hk⟩ := All₂.two ha
    obtain ⟨z, rfl, hz⟩ := h.s
    cases (QRel.nilm' hz)
    obtain ⟨k', rfl, hk⟩ := hk.cv
    split at e
    · next z hz =>
      split at e
      · next hf =>
        cases e
        have hf' : keyFits ks k' = true := by rw [← fits_rel hk]; exact hf
        refine ⟨rfl, _, by simp only [rLookup]; rw [if_pos hf'], ?_⟩
        have hz' : CR s.Z s.p z zero := ofCV_rel hz
        cases ok
        · exact hz'
        · exact .cons hz' (.cons (QRel.bool _) .nil)
      · cases e
    · cases e
  · next b k =>
    obtain ⟨y, k', rfl, h, hk⟩ := All₂.two ha
    obtain ⟨z, rfl, b', hp, rfl⟩ := h.s
    obtain ⟨k', rfl, hk⟩ := hk.cv
    split at e
    · next z hz =>
      split at e
      · next hf =>
        split at e
        · next l own frz anc log hx =>
          split at e
          · next r hr =>
            cases e
            have hf' : keyFits ks k' = true := by rw [← fits_rel hk]; exact hf
            obtain ⟨b2, ⟨body, own', anc'⟩, h1, h2, h3⟩ := hs.blk _ _ hx
            rw [hp] at h1; cases h1
            have hb := h3.body
            cases body <;> simp only [BR] at hb
            rename_i m
            obtain ⟨r', h4, h5⟩ := find_rel hk (m := m) hb hr
            refine ⟨rfl, if ok then .tup [r'.getD zero, .s (.bool r'.isSome)] else .v (r'.getD zero), by simp only [rLookup]; rw [if_pos hf']; simp only [h2, h4], ?_⟩
            have hz' : CR s.Z s.p z zero := ofCV_rel hz
            have hg : CR s.Z s.p (r.getD z) (r'.getD zero) := by
              cases r <;> cases r' <;> first | exact hz' | exact h5 | exact absurd h5 id
            have hsome : r.isSome = r'.isSome := by
              cases r <;> cases r' <;> first | rfl | exact absurd h5 id
            cases ok
            · exact hg
            · exact .cons hg (.cons (by rw [hsome]; exact QRel.bool _) .nil)
          · cases e
        · cases e
      · cases e
    · cases e
  · cases e
theorem extract_q (i : Nat) : QSim (pExtract i) (rExtract i) := by
  intro s hs args vs v g' ha e
  unfold pExtract at e
  split at e
  · next xs =>
    obtain ⟨y, rfl, h⟩ := All₂.one ha
    obtain ⟨z, rfl, hz⟩ := h.tup'
    cases hx : xs[i]? with
    | none => simp [hx, noP] at e
    | some w =>
      simp only [hx, noP, Option.some.injEq, Prod.mk.injEq] at e
      obtain ⟨rfl, rfl⟩ := e
      obtain ⟨u, h1, h2⟩ := forall₂_get hz i hx
      exact ⟨rfl, _, by simp only [rExtract, h1, noHeap], .mkV h2⟩
  · cases e
theorem lens_q : QSim pLens rLens := by
  intro s hs args vs v g' ha e
  unfold pLens at e
  split at e
  · obtain ⟨y, rfl, h⟩ := All₂.one ha
    obtain ⟨z, rfl, b', hp, rfl⟩ := h.s
    cases e; exact ⟨rfl, _, rfl, .mkS (QRel.int _ _)⟩
  · obtain ⟨y, rfl, h⟩ := All₂.one ha
    obtain ⟨z, rfl, hz⟩ := h.s
    obtain ⟨_, _, _, _, rfl, _⟩ := QRel.lst' hz
    cases e; exact ⟨rfl, _, rfl, .mkS (QRel.int _ _)⟩
  · obtain ⟨y, rfl, h⟩ := All₂.one ha
    obtain ⟨z, rfl, hz⟩ := h.s
    cases (QRel.nils' hz)
    cases e; exact ⟨rfl, _, rfl, .mkS (QRel.int _ _)⟩
  · cases e
theorem lenstr_q : QSim pLenstr rLenstr := by
  intro s hs args vs v g' ha e
  unfold pLenstr at e
  split at e
  · obtain ⟨y, rfl, h⟩ := All₂.one ha
    obtain ⟨z, rfl, hz⟩ := h.s
    cases (QRel.str' hz)
    cases e; exact ⟨rfl, _, rfl, .mkS (QRel.int _ _)⟩
  · cases e
theorem lenarr_q (n : Nat) : QSim (pLenarr n) (rLenarr n) := by
  intro s hs args vs v g' ha e
  unfold pLenarr at e
  split at e
  · obtain ⟨y, rfl, h⟩ := All₂.one ha
    cases e; exact ⟨rfl, _, rfl, .mkS (QRel.int _ _)⟩
  · cases e
theorem lenm_q : QSim pLenm rLenm := by
  intro s hs args vs v g' ha e
  unfold pLenm at e
  split at e
  · obtain ⟨y, rfl, h⟩ := All₂.one ha
    obtain ⟨z, rfl, hz⟩ := h.s
    cases (QRel.nilm' hz)
    cases e; exact ⟨rfl, _, rfl, .mkS (QRel.int _ _)⟩
  · obtain ⟨y, rfl, h⟩ := All₂.one ha
    obtain ⟨z, rfl, b', hp, rfl⟩ := h.s
    split at e
    · next l own frz anc log hx =>
      cases e
      obtain ⟨b2, ⟨body, own', anc'⟩, h1, h2, h3⟩ := hs.blk _ _ hx
      rw [hp] at h1; cases h1
      have hb := h3.body
      cases body <;> simp only [BR] at hb
      rename_i m
      exact ⟨rfl, .v (.s (.int .i64 (m.length : Nat))), by simp only [rLenm, h2], .mkS (by rw [forall₂_len hb]; exact QRel.int _ _)⟩
    · cases e
  · cases e
theorem cap_q : QSim pCap rCap := by
  intro s hs args vs v g' ha e
  unfold pCap at e
  split at e
  · obtain ⟨y, rfl, h⟩ := All₂.one ha
    obtain ⟨z, rfl, b', hp, rfl⟩ := h.s
    cases e; exact ⟨rfl, _, rfl, .mkS (QRel.int _ _)⟩
  · obtain ⟨y, rfl, h⟩ := All₂.one ha
    obtain ⟨z, rfl, hz⟩ := h.s
    obtain ⟨_, _, vcap, _, rfl, hc, _⟩ := QRel.lst' hz
    rcases hc with hc | hc
    · cases hc
    · subst hc
      cases e; exact ⟨rfl, _, rfl, .mkS (QRel.int _ _)⟩
  · obtain ⟨y, rfl, h⟩ := All₂.one ha
    obtain ⟨z, rfl, hz⟩ := h.s
    cases (QRel.nils' hz)
    cases e; exact ⟨rfl, _, rfl, .mkS (QRel.int _ _)⟩
  · cases e
theorem minmax_rel {m : Bool} {k : IntKind} : ∀ {xs : List PA} {ys : List AV} {x : Int} {r : PV}, All₂ (AR Z p) xs ys → minmaxP m k x xs = some r → ∃ r', minmaxSV m k x ys = some r' ∧ VRel Z p r r'
  | [], ys, x, r, h, e => by cases h; cases e; exact ⟨_, rfl, QRel.int _ _⟩
  | a :: xs, ys, x, r, h, e => by
    unfold minmaxP at e
    split at e
    · next h0 => cases h0
    · next h0 =>
      cases h0
      cases h with
      | cons h1 h2 =>
      obtain ⟨z, rfl, hz⟩ := h1.s
      cases (QRel.int' hz)
      obtain ⟨r', h3, h4⟩ := minmax_rel h2 e
      exact ⟨r', by simp only [minmaxSV]; exact h3, h4⟩
    · cases e
theorem minmax_q (m : Bool) : QSim (pMinmax m) (rMinmax m) := by
  intro s hs args vs v g' ha e
  unfold pMinmax at e
  split at e
  · next k x xs =>
    cases ha with
    | cons h1 h2 =>
    obtain ⟨z, rfl, hz⟩ := h1.s
    cases (QRel.int' hz)
    cases hm : minmaxP m k x xs with
    | none => simp [hm, noPS] at e
    | some w =>
      simp only [hm, noPS, Option.some.injEq, Prod.mk.injEq] at e
      obtain ⟨rfl, rfl⟩ := e
      obtain ⟨r, h3, h4⟩ := minmax_rel h2 hm
      exact ⟨rfl, _, by simp only [rMinmax, h3, noHeapS], .mkS h4⟩
  · cases e
theorem quiet_sim {o : VOp} (hk : o.kind = .quiet) : QSim (opP o) o.run := by
  cases o <;> (first
    | (simp [VOp.kind] at hk; done)
    | exact mov_q | exact pick_q | exact build_q _ _ | exact load1_q | exact loadn_q _ | exact nilchk_q | exact bin_q _ | exact eq_q _ _ | exact un_q _ | exact conv_q _
    | exact mkfunc_q _ _ | exact slice_q _ _ _ _ | exact faddr_q _ | exact field_q _ _ | exact iarr_q _ _ | exact isl_q _ | exact idx_q _ _ _ | exact sidx_q | exact lookup_q _ _ _
    | exact extract_q _ | exact lens_q | exact lenstr_q | exact lenarr_q _ | exact lenm_q | exact cap_q | exact minmax_q _
    | (intro s hs args vs v g' ha e; cases e))
end Go.Pv
end
section
namespace Go.Pv
open Go.Vm
open Go.Vm.Key (kn)
variable {Z : ZM} {p : Ren}
theorem CR.mkS {x : PV} {z : SV} (h : VRel Z p x z) : CR Z p (.s x) (.s z) := h
def ASim (f : List PA → PHeap → PR) (r : List AV → Heap → R) : Prop := ∀ s : Sta, PSim s → FreeAt s s.g.next s.h.next → ∀ (args : List PA) (vs : List AV) (v : PA) (g' : PHeap), All₂ (AR s.Z s.p) args vs → f args s.g = some (v, g') →
  ∃ u body own y, g' = s.g.newB body own [] ∧ r vs s.h = some (u, s.h.newB y) ∧ BR s.Z (s.p.set s.g.next s.h.next) body y.body ∧ (own = true → y.own = true ∧ y.anc = []) ∧ AR s.Z (s.p.set s.g.next s.h.next) v u
def ESim (f : List PA → PHeap → PR) (r : List AV → Heap → R) : Prop := ∀ s : Sta, Good s → ∀ (args : List PA) (vs : List AV) (v : PA) (g' : PHeap), All₂ (AR s.Z s.p) args vs → f args s.g = some (v, g') →
  ∃ u h' p', r vs s.h = some (u, h') ∧ Good ⟨s.Z, p', g', h'⟩ ∧ PExt s.g.next.toNat s.h.next.toNat s ⟨s.Z, p', g', h'⟩ ∧ AR s.Z p' v u
theorem QSim.e {f : List PA → PHeap → PR} {r : List AV → Heap → R} (h : QSim f r) : ESim f r := by
  intro s hs args vs v g' ha e
  obtain ⟨rfl, u, h1, h2⟩ := h s hs.toPSim args vs v g' ha e
  exact ⟨u, s.h, s.p, h1, hs, PExt.refl _ _ _, h2⟩
theorem ASim.e {f : List PA → PHeap → PR} {r : List AV → Heap → R} (h : ASim f r) : ESim f r := by
  intro s hs args vs v g' ha e
  obtain ⟨u, body, own, y, rfl, h1, h2, h3, h4⟩ := h s hs.toPSim hs.free args vs v g' ha e
  obtain ⟨h5, h6⟩ := new_good hs (anc := []) h2 fun ho => ⟨(h3 ho).1, by rw [(h3 ho).2]; exact .nil⟩
  exact ⟨u, _, _, h1, h5, h6, h4⟩
theorem list_mono {p' : Ren} (hp : PLe p p') {l : List PV} {m : List SV} (h : All₂ (VRel Z p) l m) : All₂ (VRel Z p') l m := forall₂_mono h fun _ _ => VRel.mono (fun _ _ h => h) hp
theorem new_ptr (s : Sta) (o : Nat) : AR s.Z (s.p.set s.g.next s.h.next) (.v (.s (.ptr s.g.next o))) (.v (.s (.ptr s.h.next o))) := ⟨_, Ren.set_same _ _ _, rfl⟩
theorem new_slice (s : Sta) (o len es : Nat) (cap : Option Nat) : AR s.Z (s.p.set s.g.next s.h.next) (.v (.s (.slice s.g.next o len es cap))) (.v (.s (.slice s.h.next o len es cap))) := ⟨_, Ren.set_same _ _ _, rfl⟩
theorem newz_a (zs : List SV) : ASim (pNewz zs) (rNewz zs) := by
  intro s hs hf args vs v g' ha e
  unfold pNewz at e
  split at e
  · cases ha
    split at e
    · next l hl =>
      cases e
      exact ⟨_, _, true, ⟨Body.ofList zs, true, []⟩, rfl, rfl, BR.list (ofSVs_rel hl), fun _ => ⟨rfl, rfl⟩, new_ptr s 0⟩
    · cases e
  · cases e
theorem box_a (n : Nat) : ASim (pBox n) (rBox n) := by
  intro s hs hf args vs v g' ha e
  unfold pBox at e
  split at e
  · next x =>
    obtain ⟨y, rfl, h⟩ := All₂.one ha
    obtain ⟨z, rfl, hz⟩ := h.cv
    split at e
    · next hn =>
      cases e
      have hl := forall₂_len hz.cells
      exact ⟨_, _, true, ⟨Body.ofList z.cells, true, []⟩, rfl, by simp only [rBox]; rw [if_pos (by omega)]; rfl, BR.list (list_mono hf.le hz.cells), fun _ => ⟨rfl, rfl⟩, new_ptr s 0⟩
    · cases e
  · cases e
theorem repl_rel {l : List PV} {m : List SV} (h : All₂ (VRel Z p) l m) : ∀ n, All₂ (VRel Z p) (replP l n) (replZero m n)
  | 0 => .nil
  | n + 1 => forall₂_append h (repl_rel h n)
theorem bslice_a (es len : Nat) (zero : List SV) (places : List (Nat × Nat)) : ASim (pBslice es len zero places) (rBslice es len zero places) := by
  intro s hs hf args vs v g' ha e
  unfold pBslice at e
  split at e
  · next z hz =>
    split at e
    · next cs hcs =>
      cases e
      obtain ⟨r', h1, h2⟩ := lay_rel (repl_rel (ofSVs_rel hz) len) ha hcs
      exact ⟨_, _, true, ⟨Body.ofList r', true, []⟩, rfl, by simp only [rBslice, h1]; rfl, BR.list (list_mono hf.le h2), fun _ => ⟨rfl, rfl⟩, new_slice s 0 len es _⟩
    · cases e
  · cases e
theorem s2b_a : ASim pS2b rS2b := by
  intro s hs hf args vs v g' ha e
  unfold pS2b at e
  split at e
  · next l =>
    obtain ⟨y, rfl, h⟩ := All₂.one ha
    obtain ⟨z, rfl, hz⟩ := h.s
    cases QRel.str' hz
    split at e
    · next hr =>
      cases e
      exact ⟨_, _, false, ⟨Body.ofList (l.map fun n => SV.int .u8 (n : Nat)), false, []⟩, rfl, by simp only [rS2b]; rw [if_pos hr], BR.list (forall₂_map _ _ _ fun n _ => QRel.int .u8 n), fun h => (by cases h), new_slice s 0 _ 1 none⟩
    · cases e
  · cases e
theorem new_map (s : Sta) : AR s.Z (s.p.set s.g.next s.h.next) (.v (.s (.map s.g.next))) (.v (.s (.map s.h.next))) := ⟨_, Ren.set_same _ _ _, rfl⟩
theorem mkmap_a : ASim pMkmap rMkmap := by
  intro s hs hf args vs v g' ha e
  unfold pMkmap at e
  split at e
  · cases ha; cases e
    exact ⟨_, _, true, ⟨.map [], true, []⟩, rfl, rfl, All₂.nil, fun _ => ⟨rfl, rfl⟩, new_map s⟩
  · obtain ⟨y, rfl, h⟩ := All₂.one ha
    obtain ⟨z, rfl, hz⟩ := h.s
    cases QRel.int' hz
    cases e
    exact ⟨_, _, true, ⟨.map [], true, []⟩, rfl, rfl, All₂.nil, fun _ => ⟨rfl, rfl⟩, new_map s⟩
  · cases e
theorem mkslice_a (es bytes : Nat) (zero : List SV) : ASim (pMkslice es bytes zero) (rMkslice es bytes zero) := by
  intro s hs hf args vs v g' ha e
  unfold pMkslice at e
  split at e
  · next _ l _ c =>
    obtain ⟨y, y', rfl, h, h'⟩ := All₂.two ha
    obtain ⟨z, rfl, hz⟩ := h.s
    obtain ⟨z', rfl, hz'⟩ := h'.s
    cases QRel.int' hz; cases QRel.int' hz'
    split at e
    · next zs hzs =>
      split at e
      · next hc =>
        cases e
        exact ⟨_, _, true, ⟨Body.ofList (replZero zero c.toNat), true, []⟩, rfl, by simp only [rMkslice]; rw [if_pos hc]; rfl, BR.list (repl_rel (ofSVs_rel hzs) _), fun _ => ⟨rfl, rfl⟩, new_slice s 0 _ es _⟩
      · cases e
    · cases e
  · cases e
theorem alloc_sim {o : VOp} (hk : o.kind = .alloc) : ASim (opP o) o.run := by
  cases o <;> (first
    | (simp [VOp.kind] at hk; done)
    | exact newz_a _ | exact box_a _ | exact bslice_a _ _ _ _ | exact mkmap_a | exact mkslice_a _ _ _ | exact s2b_a)
theorem store_e (n : Nat) : ESim (pStore n) (rStore n) := by
  intro s hs args vs v g' ha e
  unfold pStore at e
  split at e
  · next b o x =>
    obtain ⟨y, y', rfl, h, h'⟩ := All₂.two ha
    obtain ⟨z, rfl, b', hp, rfl⟩ := h.s
    obtain ⟨z', rfl, hz'⟩ := h'.cv
    split at e
    · next hn =>
      split at e
      · next g1 hw =>
        cases e
        obtain ⟨h', h1, h2, h3⟩ := write_sim hs (lo := s.g.next.toNat) (lov := s.h.next.toNat) hp hz'.cells hw
        have hl := forall₂_len hz'.cells
        exact ⟨_, h', s.p, by simp only [rStore]; rw [if_pos (by omega)]; simp only [h1], h2, h3, AR.mkT .nil⟩
      · cases e
    · cases e
  · cases e
theorem set_rel {ks : KeyK} {k v : PC} {k' v' : CV} (hk : CR Z p k k') (hv : CR Z p v v') : ∀ {l : List (PC × PC)} {m : List (CV × CV)} {r : List (PC × PC)}, All₂ (MRel Z p) l m → setP ks k v l = some r →
    ∃ r', setCV ks k' v' m = some r' ∧ All₂ (MRel Z p) r r'
  | [], m, r, h, e => by cases h; cases e; exact ⟨_, rfl, .cons ⟨hk, hv⟩ .nil⟩
  | (x, u) :: l, m, r, h, e => by
    cases h with
    | cons h1 h2 =>
    rename_i y m
    obtain ⟨y, w⟩ := y
    unfold setP at e
    split at e
    · next h0 =>
      cases e
      exact ⟨(y, v') :: m, by simp only [setCV, eqKey_rel hk h1.1 h0], .cons ⟨h1.1, hv⟩ h2⟩
    · next h0 =>
      split at e
      · next r1 hr =>
        cases e
        obtain ⟨r', h3, h4⟩ := set_rel hk hv h2 hr
        exact ⟨(y, w) :: r', by simp only [setCV, eqKey_rel hk h1.1 h0, h3], .cons h1 h4⟩
      · cases e
    · cases e
theorem turn_other {s : Sta} (hs : Good s) {b b' : Key} (hp : s.p b = some b') {body body' : PBody} {log : List (Nat × Nat)} (hx : s.g.get b = some ⟨body, true, false, [], log⟩) (hnc : ∀ l, body ≠ .cells l) (hnc' : ∀ l, body' ≠ .cells l) {y' : Body} (hb : BR s.Z s.p body' y') :
    ∃ y, s.h.get b' = some ⟨y, true, []⟩ ∧ BR s.Z s.p body y ∧ Good ⟨s.Z, s.p, s.g.upd b (some ⟨body', true, false, [], (0, 0) :: log⟩), s.h.upd b' (some ⟨y', true, []⟩)⟩ ∧
      PExt s.g.next.toNat s.h.next.toNat s ⟨s.Z, s.p, s.g.upd b (some ⟨body', true, false, [], (0, 0) :: log⟩), s.h.upd b' (some ⟨y', true, []⟩)⟩ := by
  obtain ⟨b2, ⟨y, own, anc⟩, h1, h2, h3⟩ := hs.blk _ _ hx
  rw [hp] at h1; cases h1
  obtain ⟨ho, ha⟩ := h3.own rfl
  simp only at ho ha
  subst ho
  cases ha
  have hz := h3.thaw rfl
  have t1 := turn_sim hs.toPSim (anc := []) (anc' := []) .nil rfl hp hz (x' := some ⟨body', true, false, [], (0, 0) :: log⟩) (y' := some ⟨y', true, []⟩) ⟨_, rfl, hb, rfl, rfl, rfl, rfl⟩
  have t2 := turn_ext hs.toPSim (lo := s.g.next.toNat) (lov := s.h.next.toNat) (anc := []) (anc' := []) .nil hp (x' := some ⟨body', true, false, [], (0, 0) :: log⟩) (y' := some ⟨y', true, []⟩) ⟨_, hx⟩ fun x x1 e1 e2 => by
    rw [hx] at e1; cases e1; cases e2
    refine ⟨[(0, 0)], rfl, fun y0 hy0 => ⟨_, rfl, fun h => (by cases h), fun l e => absurd e (hnc' l), fun l c m e1 _ => absurd e1 (hnc l)⟩⟩
  exact ⟨y, h2, h3.body, ⟨t1, turn_room (anc := []) (anc' := []) hs.toRoom hp⟩, t2⟩
theorem mapset_e (ks : KeyK) : ESim (pMapset ks) (rMapset ks) := by
  intro s hs args vs v g' ha e
  unfold pMapset at e
  split at e
  · next b k v0 =>
    obtain ⟨y, y', y'', rfl, h, h', h''⟩ := All₂.three ha
    obtain ⟨z, rfl, b', hp, rfl⟩ := h.s
    obtain ⟨k', rfl, hk⟩ := h'.cv
    obtain ⟨v', rfl, hv⟩ := h''.cv
    split at e
    · next hf =>
      split at e
      · next l log hx =>
        split at e
        · next l' hl =>
          cases e
          obtain ⟨b2, ⟨y, own, anc⟩, h1, h2, h3⟩ := hs.blk _ _ hx
          rw [hp] at h1; cases h1
          have hb := h3.body
          cases y <;> simp only [BR] at hb
          rename_i m
          obtain ⟨m', h4, h5⟩ := set_rel hk hv (m := m) hb hl
          obtain ⟨y, h6, h7, h8, h9⟩ := turn_other hs hp hx (fun _ h => by cases h) (fun _ h => by cases h) (body' := .map l') (y' := .map m') h5
          rw [h2] at h6; cases h6
          have hf' : keyFits ks k' = true := by rw [← fits_rel hk]; exact hf
          exact ⟨.unit, _, s.p, by simp only [rMapset]; rw [if_pos hf']; simp only [h2, h4], h8, h9, AR.mkT .nil⟩
        · cases e
      · cases e
    · cases e
  · cases e
theorem append_rel {s : Sta} (hs : Good s) {es bytes : Nat} {x v : PV} {x' : SV} (hx : VRel s.Z s.p x x') {new : List PV} {new' : List SV} {n : Nat} (hn : All₂ (VRel s.Z s.p) new new') {g' : PHeap} (e : appendP s.g es bytes x new n = some (v, g')) :
    ∃ u h' p', appendV s.h es bytes x' new' n = some (u, h') ∧ Good ⟨s.Z, p', g', h'⟩ ∧ PExt s.g.next.toNat s.h.next.toNat s ⟨s.Z, p', g', h'⟩ ∧ VRel s.Z p' v u := by
  unfold appendP at e
  split at e
  · cases QRel.nils' hx
    split at e
    · next h0 => cases e; exact ⟨.nils, s.h, s.p, by simp only [appendV]; rw [if_pos h0], hs, PExt.refl _ _ _, QRel.nils⟩
    · next h0 =>
      split at e
      · next hr =>
        cases e
        obtain ⟨h1, h2⟩ := new_good hs (body := .cells new) (own := true) (anc := []) (y := ⟨Body.ofList new', true, []⟩) (BR.list (list_mono hs.free.le hn)) fun _ => ⟨rfl, .nil⟩
        exact ⟨_, _, _, by simp only [appendV]; rw [if_neg h0, if_pos hr]; rfl, h1, h2, _, Ren.set_same _ _ _, rfl⟩
      · cases e
  · next b o len es' cap =>
    obtain ⟨b', hp, rfl⟩ := hx
    split at e
    · next hes =>
      subst hes
      split at e
      · next h0 => cases e; exact ⟨_, s.h, s.p, by simp only [appendV, if_true]; rw [if_pos h0], hs, PExt.refl _ _ _, b', hp, rfl⟩
      · next h0 =>
        split at e
        · next c =>
          split at e
          · next hle =>
            split at e
            · next g1 hw =>
              cases e
              obtain ⟨h', h1, h2, h3⟩ := write_sim hs (lo := s.g.next.toNat) (lov := s.h.next.toNat) hp hn hw
              exact ⟨.slice b' o (len + n) es (some c), h', s.p, by simp only [appendV, if_true]; rw [if_neg h0, if_pos hle]; simp only [h1], h2, h3, b', hp, rfl⟩
            · cases e
          · next hle =>
            split at e
            · next hr =>
              split at e
              · next c1 g1 hw =>
                cases e
                obtain ⟨h', p', h1, rfl, h2, h3, h4⟩ := renew_sim hs hp hn hw
                exact ⟨.slice s.h.next 0 (len + n) es none, h', p', by simp only [appendV, if_true]; rw [if_neg h0, if_neg hle, if_pos hr]; simp only [h1], h2, h3, _, h4, rfl⟩
              · cases e
            · cases e
        · split at e
          · next hr =>
            split at e
            · next c1 g1 hw =>
              cases e
              obtain ⟨h', p', h1, rfl, h2, h3, h4⟩ := grow_sim hs hp hn hw
              exact ⟨.slice s.h.next 0 (len + n) es none, h', p', by simp only [appendV, if_true]; rw [if_neg h0, if_pos hr]; simp only [h1], h2, h3, _, h4, rfl⟩
            · cases e
          · cases e
    · cases e
  · next es' l cap =>
    obtain ⟨b, o, vcap, f, rfl, hc, hl, he, hz, h⟩ := QRel.lst' hx
    split at e
    · next hes =>
      subst hes
      split at e
      · next h0 => cases e; exact ⟨_, s.h, s.p, by simp only [appendV, if_true]; rw [if_pos h0], hs, PExt.refl _ _ _, hx⟩
      · next h0 =>
        split at e
        · next c =>
          split at e
          · cases e
          · next hle =>
            split at e
            · next hr =>
              cases e
              rcases hc with hc | hc
              · cases hc
              subst hc
              have hflat : All₂ (VRel s.Z s.p) l.flatten (tab f (l.length * es)) := flatten_rel l f he fun i e j x hi hj => (h i e j x hi hj).v
              have hfl := forall₂_len hflat
              rw [tab_length] at hfl
              have hrenew : ∃ y, s.h.renew b o (l.length * es) new' = some (s.h.next, s.h.newB ⟨y, true, []⟩) ∧ BR s.Z s.p (.cells (l.flatten ++ new)) y := by
                unfold Heap.renew
                by_cases hk : l.length * es = 0
                · rw [if_pos hk]
                  have : l.flatten = [] := List.length_eq_zero_iff.1 (by omega)
                  rw [this]
                  exact ⟨_, rfl, BR.list hn⟩
                · rw [if_neg hk]
                  obtain ⟨c', m, h1, h2, h3⟩ := hz hk
                  rw [cells_z hs.toPSim h1]
                  have hread : readN c' o (l.length * es) = some (tab f (l.length * es)) := readN_tab _ _ _ h3
                  have hcop : ∃ y, Heap.copied c' m o (l.length * es) new' = some y := by
                    unfold Heap.copied
                    rw [if_pos h2, hread]
                    split
                    · exact ⟨_, rfl⟩
                    · exact ⟨_, rfl⟩
                  obtain ⟨y, hy⟩ := hcop
                  obtain ⟨_, d, rfl, h4, h5⟩ := copied_spec hy
                  simp only [hy]
                  refine ⟨_, rfl, by simp [hfl, forall₂_len hn], fun i x hi => ?_⟩
                  by_cases hi' : i < l.length * es
                  · rw [List.getElem?_append_left (by omega)] at hi
                    obtain ⟨u, h6, h7⟩ := forall₂_get hflat i hi
                    refine ⟨u, ?_, h7⟩
                    rw [h4 i hi', h3 i hi']
                    have hg : (tab f (l.length * es))[i]? = some (f i) := by
                      have : ∀ (n : Nat) (f : Nat → SV) (i : Nat), i < n → (tab f n)[i]? = some (f i) := by
                        intro n
                        induction n with
                        | zero => intro f i h; omega
                        | succ n ih =>
                          intro f i h
                          cases i with
                          | zero => rfl
                          | succ i => simp only [tab, List.getElem?_cons_succ]; exact ih _ i (by omega)
                      exact this _ _ _ hi'
                    rw [hg] at h6
                    exact h6
                  · rw [List.getElem?_append_right (by omega), hfl] at hi
                    obtain ⟨u, h6, h7⟩ := forall₂_get hn _ hi
                    have hlt := (List.getElem?_eq_some_iff.1 h6).1
                    refine ⟨u, ?_, h7⟩
                    rw [← h6, ← h5 _ hlt]; congr 2; omega
              obtain ⟨y, h1, h2⟩ := hrenew
              obtain ⟨h3, h4⟩ := new_good hs (body := .cells (l.flatten ++ new)) (own := true) (anc := []) (y := ⟨y, true, []⟩) (h2.mono (fun _ _ h => h) hs.free.le) fun _ => ⟨rfl, .nil⟩
              exact ⟨.slice s.h.next 0 (l.length + n) es none, _, _, by simp only [appendV, if_true]; rw [if_neg h0, if_neg hle, if_pos hr]; simp only [h1], h3, h4, _, Ren.set_same _ _ _, rfl⟩
            · cases e
        · cases e
    · cases e
  · cases e
theorem append_e (es bytes : Nat) : ESim (pAppend es bytes) (rAppend es bytes) := by
  intro s hs args vs v g' ha e
  unfold pAppend at e
  split at e
  · obtain ⟨y, y', rfl, h, h'⟩ := All₂.two ha
    obtain ⟨z, rfl, hz⟩ := h.s
    obtain ⟨z', rfl, hz'⟩ := h'.s
    split at e
    · next new n hn =>
      obtain ⟨new', h1, h2⟩ := src_sim hs.toPSim hz' hn
      split at e
      · next w g1 hw =>
        cases e
        obtain ⟨u, h', p', h3, h4, h5, h6⟩ := append_rel hs hz h2 hw
        exact ⟨.v (.s u), h', p', by simp only [rAppend, h1, h3], h4, h5, AR.mkS h6⟩
      · cases e
    · cases e
  · cases e
theorem copy_e (es : Nat) : ESim (pCopy es) (rCopy es) := by
  intro s hs args vs v g' ha e
  unfold pCopy at e
  split at e
  · obtain ⟨y, y', rfl, h, h'⟩ := All₂.two ha
    obtain ⟨z, rfl, hz⟩ := h.s
    obtain ⟨z', rfl, hz'⟩ := h'.s
    split at e
    · next src n hn =>
      obtain ⟨src', h1, h2⟩ := src_sim hs.toPSim hz' hn
      split at e
      · cases QRel.nils' hz
        cases e
        exact ⟨_, s.h, s.p, by simp only [rCopy, h1], hs, PExt.refl _ _ _, AR.mkS (QRel.int _ _)⟩
      · next b o len es' _ =>
        obtain ⟨b', hp, rfl⟩ := hz
        split at e
        · next hes =>
          subst hes
          split at e
          · next h0 =>
            cases e
            exact ⟨_, s.h, s.p, by simp only [rCopy, h1, if_true]; rw [if_pos h0], hs, PExt.refl _ _ _, AR.mkS (QRel.int _ _)⟩
          · next h0 =>
            split at e
            · next g1 hw =>
              cases e
              obtain ⟨h', h3, h4, h5⟩ := write_sim hs (lo := s.g.next.toNat) (lov := s.h.next.toNat) hp (forall₂_take _ h2) hw
              exact ⟨.int .i64 (min n len : Nat), h', s.p, by simp only [rCopy, h1, if_true]; rw [if_neg h0]; simp only [h3], h4, h5, AR.mkS (QRel.int _ _)⟩
            · cases e
        · cases e
      · cases e
    · cases e
  · cases e
theorem b2s_q : QSim pB2s rB2s := by
  have hby : ∀ {Z : ZM} {p : Ren} {l : List PV} {m : List SV} {r : List Nat}, All₂ (VRel Z p) l m → bytesP l = some r → bytesOfSV m = some r := by
    intro Z p l
    induction l with
    | nil => intro m r h e; cases h; exact e
    | cons x l ih =>
      intro m r h e
      cases h with
      | cons h1 h2 =>
      unfold bytesP at e
      split at e
      · next n r1 hx hr =>
        cases e
        unfold byteP at hx
        split at hx
        · split at hx
          · next hc => cases hx; cases QRel.int' h1; simp only [bytesOfSV, Go.Vm.byteOf]; rw [if_pos hc, ih h2 hr]
          · cases hx
        · cases hx
      · cases e
  intro s hs args vs v g' ha e
  unfold pB2s at e
  split at e
  · obtain ⟨y, rfl, h⟩ := All₂.one ha
    obtain ⟨z, rfl, hz⟩ := h.s
    split at e
    · next l n hl =>
      split at e
      · next r hr =>
        cases e
        obtain ⟨l', h1, h2⟩ := src_sim hs hz hl
        obtain ⟨b', hp, rfl⟩ := hz
        exact ⟨rfl, _, by simp only [rB2s, h1, hby h2 hr], AR.mkS (QRel.str _)⟩
      · cases e
    · cases e
  · obtain ⟨y, rfl, h⟩ := All₂.one ha
    obtain ⟨z, rfl, hz⟩ := h.s
    split at e
    · next l n hl =>
      split at e
      · next r hr =>
        cases e
        obtain ⟨l', h1, h2⟩ := src_sim hs hz hl
        obtain ⟨b, o, vcap, f, rfl, _⟩ := QRel.lst' hz
        exact ⟨rfl, _, by simp only [rB2s, h1, hby h2 hr], AR.mkS (QRel.str _)⟩
      · cases e
    · cases e
  · obtain ⟨y, rfl, h⟩ := All₂.one ha
    obtain ⟨z, rfl, hz⟩ := h.s
    cases QRel.nils' hz
    cases e
    exact ⟨rfl, _, rfl, AR.mkS (QRel.str _)⟩
  · cases e
theorem map_there {s : Sta} (hs : PSim s) {b b' : Key} (hp : s.p b = some b') {l : List (PC × PC)} {own frz : Bool} {anc : List Key} {log : List (Nat × Nat)} (hx : s.g.get b = some ⟨.map l, own, frz, anc, log⟩) :
    ∃ m own' anc', s.h.get b' = some ⟨.map m, own', anc'⟩ ∧ All₂ (MRel s.Z s.p) l m := by
  obtain ⟨b2, ⟨y, own', anc'⟩, h1, h2, h3⟩ := hs.blk _ _ hx
  rw [hp] at h1; cases h1
  have hb := h3.body
  cases y <;> simp only [BR] at hb
  exact ⟨_, _, _, h2, hb⟩
theorem mrange_e : ESim pMrange rMrange := by
  intro s hs args vs v g' ha e
  unfold pMrange at e
  split at e
  · obtain ⟨y, rfl, h⟩ := All₂.one ha
    obtain ⟨z, rfl, b', hp, rfl⟩ := h.s
    split at e
    · next l own frz anc log hx =>
      split at e
      · next hl =>
        cases e
        obtain ⟨m, own', anc', h1, h2⟩ := map_there hs.toPSim hp hx
        have hlen := forall₂_len h2
        obtain ⟨h3, h4⟩ := new_good hs (body := .iter _ l.length 0) (own := true) (anc := []) (y := ⟨.iter b' m.length 0, true, []⟩) ⟨hs.free.le _ _ hp, hlen, rfl⟩ fun _ => ⟨rfl, .nil⟩
        exact ⟨_, _, _, by simp only [rMrange, h1]; rw [if_pos (by omega)]; rfl, h3, h4, new_ptr s 0⟩
      · cases e
    · cases e
  · cases e
theorem iter_there {s : Sta} (hs : PSim s) {b b' : Key} (hp : s.p b = some b') {m : Key} {n st : Nat} {own frz : Bool} {anc : List Key} {log : List (Nat × Nat)} (hx : s.g.get b = some ⟨.iter m n st, own, frz, anc, log⟩) :
    ∃ m' own' anc', s.h.get b' = some ⟨.iter m' n st, own', anc'⟩ ∧ s.p m = some m' := by
  obtain ⟨b2, ⟨y, own', anc'⟩, h1, h2, h3⟩ := hs.blk _ _ hx
  rw [hp] at h1; cases h1
  have hb := h3.body
  cases y <;> simp only [BR] at hb
  obtain ⟨h4, rfl, rfl⟩ := hb
  exact ⟨_, _, _, h2, h4⟩
theorem mnext_e : ESim pMnext rMnext := by
  intro s hs args vs v g' ha e
  unfold pMnext at e
  split at e
  · next i =>
    obtain ⟨y, rfl, h⟩ := All₂.one ha
    obtain ⟨z, rfl, i', hp, rfl⟩ := h.s
    split at e
    · next b n st log hx =>
      split at e
      · next l own frz anc log' hx' =>
        split at e
        · next hn =>
          obtain ⟨b', _, _, h1, h2⟩ := iter_there hs.toPSim hp hx
          obtain ⟨m, _, _, h3, h4⟩ := map_there hs.toPSim h2 hx'
          have hlen := forall₂_len h4
          obtain ⟨y, h5, h6, h7, h8⟩ := turn_other hs hp hx (fun _ h => by cases h) (fun _ h => by cases h) (body' := .iter b n 1) (y' := .iter b' n 1) ⟨h2, rfl, rfl⟩
          rw [h1] at h5; cases h5
          split at e
          · next k v =>
            cases e
            obtain ⟨⟨k', v'⟩, rfl, hkv⟩ := All₂.one h4
            exact ⟨_, _, s.p, by simp only [rMnext, h1, h3]; rw [if_pos (by omega)], h7, h8, AR.mkT (.cons (CR.mkS (QRel.bool _)) (.cons hkv.1 (.cons hkv.2 .nil)))⟩
          · cases e
            cases h4
            exact ⟨_, s.h, s.p, by simp only [rMnext, h1, h3]; rw [if_pos (by omega)], hs, PExt.refl _ _ _, AR.mkT (.cons (CR.mkS (QRel.bool _)) .nil)⟩
          · cases e
            obtain ⟨⟨k', v'⟩, rfl, hkv⟩ := All₂.one h4
            exact ⟨_, s.h, s.p, by simp only [rMnext, h1, h3]; rw [if_pos (by omega)], hs, PExt.refl _ _ _, AR.mkT (.cons (CR.mkS (QRel.bool _)) .nil)⟩
          · cases e
        · cases e
      · cases e
    · cases e
  · cases e
theorem mentry_q : QSim pMentry rMentry := by
  intro s hs args vs v g' ha e
  unfold pMentry at e
  split at e
  · obtain ⟨y, rfl, h⟩ := All₂.one ha
    obtain ⟨z, rfl, i', hp, rfl⟩ := h.s
    split at e
    · next b n _ _ _ _ hx =>
      split at e
      · next k v _ _ _ _ hx' =>
        split at e
        · next hn =>
          cases e
          obtain ⟨b', _, _, h1, h2⟩ := iter_there hs hp hx
          obtain ⟨m, _, _, h3, h4⟩ := map_there hs h2 hx'
          obtain ⟨⟨k', v'⟩, rfl, hkv⟩ := All₂.one h4
          exact ⟨rfl, _, by simp only [rMentry, h1, h3]; rw [if_pos hn], AR.mkT (.cons hkv.1 (.cons hkv.2 .nil))⟩
        · cases e
      · cases e
    · cases e
  · cases e
theorem op_sim (o : VOp) : ESim (opP o) o.run := by
  cases hk : o.kind with
  | quiet => exact (quiet_sim hk).e
  | alloc => exact (alloc_sim hk).e
  | effect =>
    cases o <;> (first
      | (simp [VOp.kind] at hk; done)
      | exact store_e _ | exact mapset_e _ | exact append_e _ _ | exact copy_e _ | exact b2s_q.e | exact mrange_e | exact mnext_e | exact mentry_q.e)
end Go.Pv
end
section
namespace Go.Pv
open Go.Vm
open Go.Vm.Key (kn)
def QC (Z : ZM) : PC → CV → Prop
  | .s x, .s y => QRel Z x y
  | .agg l, .agg m => All₂ (QRel Z) l m
  | _, _ => False
def QA (Z : ZM) : PA → AV → Prop
  | .v x, .v y => QC Z x y
  | .tup l, .tup m => All₂ (QC Z) l m
  | _, _ => False
theorem QC.c {Z : ZM} {p : Ren} {x : PC} {y : CV} (h : QC Z x y) : CR Z p x y := by
  cases x <;> cases y <;> simp only [QC, CR] at h ⊢
  · exact h.v
  · exact forall₂_mono h fun _ _ h => h.v
theorem QA.a {Z : ZM} {p : Ren} {x : PA} {y : AV} (h : QA Z x y) : AR Z p x y := by
  cases x <;> cases y <;> simp only [QA, AR] at h ⊢
  · exact h.c
  · exact forall₂_mono h fun _ _ h => h.c
theorem QC.mono {Z Z' : ZM} (hz : ZLe Z Z') {x : PC} {y : CV} (h : QC Z x y) : QC Z' x y := by
  cases x <;> cases y <;> simp only [QC] at h ⊢
  · exact h.mono hz
  · exact forall₂_mono h fun _ _ h => h.mono hz
theorem QA.mono {Z Z' : ZM} (hz : ZLe Z Z') {x : PA} {y : AV} (h : QA Z x y) : QA Z' x y := by
  cases x <;> cases y <;> simp only [QA] at h ⊢
  · exact h.mono hz
  · exact forall₂_mono h fun _ _ h => h.mono hz
theorem chunk_length (es : Nat) : ∀ (n : Nat) (l : List PV), (chunk es n l).length = n
  | 0, _ => rfl
  | n + 1, l => by simp [chunk, chunk_length es n]
theorem chunk_get (es : Nat) : ∀ (n : Nat) (l : List PV) (i : Nat) (e : List PV), l.length = n * es → (chunk es n l)[i]? = some e → e.length = es ∧ ∀ (j : Nat) (x : PV), e[j]? = some x → l[i * es + j]? = some x
  | 0, l, i, e, _, h => by simp [chunk] at h
  | n + 1, l, i, e, hl, h => by
    rw [Nat.add_mul, Nat.one_mul] at hl
    cases i with
    | zero =>
      simp [chunk] at h
      subst h
      refine ⟨by simp; omega, fun j x hx => ?_⟩
      rw [List.getElem?_take] at hx
      split at hx
      · simpa using hx
      · cases hx
    | succ i =>
      simp only [chunk, List.getElem?_cons_succ] at h
      obtain ⟨h1, h2⟩ := chunk_get es n (l.drop es) i e (by simp; omega) h
      refine ⟨h1, fun j x hx => ?_⟩
      have := h2 j x hx
      rw [List.getElem?_drop] at this
      rw [← this]; congr 1; rw [Nat.add_mul]; omega
structure Frz (s : Sta) (Z' : ZM) (g' : PHeap) : Prop where
  sim : PSim ⟨Z', s.p, g', s.h⟩
  room : Room s → Room ⟨Z', s.p, g', s.h⟩
  ext : ∀ lo lov, PExt lo lov s ⟨Z', s.p, g', s.h⟩
theorem Frz.refl {s : Sta} (hs : PSim s) : Frz s s.Z s.g := ⟨hs, fun h => h, fun _ _ => PExt.refl _ _ _⟩
theorem Frz.trans {s : Sta} {Z' Z'' : ZM} {g' g'' : PHeap} (hs : PSim s) (h : Frz s Z' g') (h' : Frz ⟨Z', s.p, g', s.h⟩ Z'' g'') : Frz s Z'' g'' :=
  ⟨h'.sim, fun hr => h'.room (h.room hr), fun lo lov => (h.ext lo lov).trans hs (h'.ext lo lov) (Nat.le_refl _) (Nat.le_refl _)⟩
theorem frz_block {s : Sta} (hs : PSim s) {b b' : Key} (hp : s.p b = some b') {x : PBlk} {y : Blk} (hx : s.g.get b = some x) (hy : s.h.get b' = some y) (hf : x.frz = false) :
    Frz s (fun k => if b' = k then some y.body else s.Z k) (s.g.upd b (some { x with frz := true })) := by
  have hz0 : s.Z b' = none := by
    obtain ⟨b2, y2, h1, h2, h3⟩ := hs.blk b x hx
    rw [hp] at h1; cases h1
    exact h3.thaw hf
  have hzle : ZLe s.Z (fun k => if b' = k then some y.body else s.Z k) := by
    intro k c h
    have hne : b' ≠ k := fun e => by rw [← e, hz0] at h; cases h
    simp only [hne, if_false]; exact h
  refine ⟨⟨hs.inj, fun k x1 h1 => ?_, fun k c h => ?_, fun k c h1 h2 => ?_⟩, fun hr => ⟨hr.pk, fun k c h => ?_, hr.top⟩, fun lo lov => ⟨⟨Nat.le_refl _, Nat.le_refl _⟩, hzle, fun _ _ h => h, fun _ _ h => .inl h, fun k c h => ?_, fun _ _ _ => rfl, fun k c h1 h2 => ?_, fun k x1 x2 h1 h2 => ?_⟩⟩
  · simp only at h1 ⊢
    rw [pget_upd] at h1
    by_cases e : b = k
    · subst e
      simp only [if_true, Option.some.injEq] at h1
      subst h1
      obtain ⟨b2, y2, h1, h2, h3⟩ := hs.blk b x hx
      rw [hp] at h1; cases h1
      rw [hy] at h2; cases h2
      exact ⟨b', y, hp, hy, h3.body.mono hzle (fun _ _ h => h), h3.own, fun h => (by cases h), fun _ => by simp⟩
    · simp only [e, if_false] at h1
      obtain ⟨b2, y2, h2, h3, h4⟩ := hs.blk k x1 h1
      have hne : b' ≠ b2 := fun e' => e (hs.inj b k b2 (e' ▸ hp) h2)
      exact ⟨b2, y2, h2, h3, h4.body.mono hzle (fun _ _ h => h), h4.own, fun h => by simp only [hne, if_false]; exact h4.thaw h, fun h => hzle _ _ (h4.frz h)⟩
  · simp only at h ⊢
    by_cases e : b' = k
    · subst e; simp only [if_true, Option.some.injEq] at h; exact ⟨y, hy, h⟩
    · simp only [e, if_false] at h; exact hs.z k c h
  · simp only at h1 h2 ⊢
    rw [pget_upd] at h2
    by_cases e : b = k
    · simp [e] at h2
    · simp only [e, if_false] at h2; exact hs.dead k c h1 h2
  · simp only at h ⊢
    by_cases e : b' = k
    · subst e; exact (hr.pk b b' hp).2
    · simp only [e, if_false] at h; exact hr.zr k c h
  · simp only at h
    by_cases e : b' = k
    · subst e; exact .inr (.inl ⟨b, hp⟩)
    · simp only [e, if_false] at h; exact .inl (by rw [h]; simp)
  · simp only
    rw [pget_upd]
    by_cases e : b = k
    · subst e; rw [hx] at h2; cases h2
    · simp [e, h2]
  · simp only at h2 ⊢
    rw [pget_upd] at h2
    by_cases e : b = k
    · subst e
      rw [hx] at h1; cases h1
      simp only [if_true, Option.some.injEq] at h2
      subst h2
      exact ⟨[], rfl, fun c y1 _ hy1 => ⟨y1, hy1, Keep.refl _ _⟩⟩
    · simp only [e, if_false] at h2
      rw [h1] at h2; cases h2
      exact ⟨[], rfl, fun c y1 _ hy1 => ⟨y1, hy1, Keep.refl _ _⟩⟩
def FrzOk (f : PV → PHeap → Option (PV × PHeap)) : Prop := ∀ s : Sta, PSim s → ∀ v u v' g', VRel s.Z s.p v u → f v s.g = some (v', g') → ∃ Z', Frz s Z' g' ∧ QRel Z' v' u
theorem frzVs_ok {f : PV → PHeap → Option (PV × PHeap)} (hf : FrzOk f) : ∀ (l : List PV) {s : Sta}, PSim s → ∀ {us : List SV} {l' : List PV} {g' : PHeap}, All₂ (VRel s.Z s.p) l us → frzV.frzVs f l s.g = some (l', g') →
    ∃ Z', Frz s Z' g' ∧ All₂ (QRel Z') l' us
  | [], s, hs, us, l', g', h, e => by
    cases h
    simp only [frzV.frzVs, Option.some.injEq, Prod.mk.injEq] at e
    obtain ⟨rfl, rfl⟩ := e
    exact ⟨s.Z, Frz.refl hs, .nil⟩
  | x :: l, s, hs, us, l', g', h, e => by
    cases h with
    | cons h1 h2 =>
    simp only [frzV.frzVs] at e
    split at e
    · next y g1 hy =>
      split at e
      · next ys g2 hys =>
        cases e
        obtain ⟨Z1, f1, q1⟩ := hf s hs _ _ _ _ h1 hy
        obtain ⟨Z2, f2, q2⟩ := frzVs_ok hf l (s := ⟨Z1, s.p, g1, s.h⟩) f1.sim (forall₂_mono h2 fun _ _ h => h.mono (f1.ext 0 0).zle (fun _ _ h => h)) hys
        exact ⟨Z2, f1.trans hs f2, .cons (q1.mono (f2.ext 0 0).zle) q2⟩
      · cases e
    · cases e
theorem frzV_ok : ∀ n, FrzOk (frzV n)
  | 0 => by intro s hs v u v' g' h e; cases e
  | n + 1 => by
    intro s hs v u v' g' h e
    unfold frzV at e
    split at e
    case h_1 => cases e; exact ⟨s.Z, Frz.refl hs, h⟩
    case h_2 => cases e; exact ⟨s.Z, Frz.refl hs, h⟩
    case h_3 => cases e; exact ⟨s.Z, Frz.refl hs, h⟩
    case h_4 => cases e; exact ⟨s.Z, Frz.refl hs, h⟩
    case h_5 => cases e; exact ⟨s.Z, Frz.refl hs, h⟩
    case h_6 => cases e; exact ⟨s.Z, Frz.refl hs, h⟩
    case h_7 => cases e; exact ⟨s.Z, Frz.refl hs, h⟩
    case h_8 =>
      cases e
      obtain ⟨fs', cs', rfl, h1, h2⟩ := h
      cases h1; cases h2
      exact ⟨s.Z, Frz.refl hs, .func _⟩
    case h_9 =>
      cases e
      obtain ⟨b, o, vcap, f, rfl, _, hl, he, hz, h⟩ := QRel.lst' h
      exact ⟨s.Z, Frz.refl hs, .lst f (.inl rfl) hl he hz h⟩
    case h_10 => cases e; exact ⟨s.Z, Frz.refl hs, h⟩
    case h_11 b o len es cap =>
      obtain ⟨b', hp, rfl⟩ := h
      split at e
      · cases e
      · next hcap =>
        have hcap' : ∀ c, cap = some c → len ≤ c := by
          intro c hc; subst hc
          simpa [capFits] using hcap
        split at e
        · next h0 =>
          cases e
          refine ⟨s.Z, Frz.refl hs, ?_⟩
          have := QRel.lst (Z := s.Z) (es := es) (l := chunk es len []) (cap := none) (b := b') (o := o) (vcap := cap) (fun _ => .nilp) (.inl rfl) (by rw [chunk_length]; exact hcap')
            (fun e he => by
              obtain ⟨i, hi⟩ := List.getElem?_of_mem he
              exact (chunk_get es len [] i e (by simp [h0]) hi).1)
            (by rw [chunk_length]; exact fun h => absurd h0 h)
            (fun i e j x hi hj => by
              have := (chunk_get es len [] i e (by simp [h0]) hi).2 j x hj
              simp at this)
          rw [chunk_length] at this
          exact this
        · next h0 =>
          split at e
          · next c own frz anc log hx =>
            split at e
            · next hle =>
              split at e
              · next l g1 hl =>
                cases e
                obtain ⟨y, d, h1, h2, h3, h4⟩ := hs.cells hp hx rfl
                have hblk : ∃ Z1, Frz s Z1 (if frz then s.g else s.g.upd b (some ⟨.cells c, own, true, anc, log⟩)) ∧ Z1 b' = some (.cells d c.length) := by
                  cases frz with
                  | true =>
                    have := h2.frz rfl
                    rw [h3] at this
                    exact ⟨s.Z, Frz.refl hs, this⟩
                  | false =>
                    refine ⟨_, frz_block hs hp hx h1 rfl, ?_⟩
                    simp [h3]
                obtain ⟨Z1, f1, hz1⟩ := hblk
                have htl : ((c.drop o).take (len * es)).length = len * es := by simp; omega
                obtain ⟨us, hr, hrel⟩ := readN_all (c := d) (R := VRel s.Z s.p) ((c.drop o).take (len * es)) o fun i x hi => by
                  obtain ⟨h, _⟩ := drop_take_get c o (len * es) i x hi
                  exact h4 _ _ h
                rw [htl] at hr
                obtain ⟨hul, hug⟩ := readN_spec d (len * es) o us hr
                obtain ⟨Z2, f2, q2⟩ := frzVs_ok (frzV_ok n) _ f1.sim (forall₂_mono hrel fun _ _ h => h.mono (f1.ext 0 0).zle (fun _ _ h => h)) hl
                refine ⟨Z2, f1.trans hs f2, ?_⟩
                have hll := forall₂_len q2
                have hz2 : Z2 b' = some (.cells d c.length) := (f2.ext 0 0).zle _ _ hz1
                have := QRel.lst (Z := Z2) (es := es) (l := chunk es len l) (cap := none) (b := b') (o := o) (vcap := cap) (fun t => us.getD t .nilp) (.inl rfl) (by rw [chunk_length]; exact hcap')
                  (fun e he => by
                    obtain ⟨i, hi⟩ := List.getElem?_of_mem he
                    exact (chunk_get es len l i e (by omega) hi).1)
                  (by
                    rw [chunk_length]
                    exact fun _ => ⟨d, c.length, hz2, hle, fun t ht => by rw [hug t ht]; simp only [List.getD_eq_getElem?_getD]; rw [List.getElem?_eq_getElem (by omega)]; simp⟩)
                  (fun i e j x hi hj => by
                    have := (chunk_get es len l i e (by omega) hi).2 j x hj
                    obtain ⟨w, h5, h6⟩ := forall₂_get q2 _ this
                    simp only [List.getD_eq_getElem?_getD, h5]; exact h6)
                rw [chunk_length] at this
                exact this
              · cases e
            · cases e
          · cases e
    case h_12 => cases e
theorem frzC_ok {n : Nat} {s : Sta} (hs : PSim s) {v : PC} {u : CV} {v' : PC} {g' : PHeap} (h : CR s.Z s.p v u) (e : frzC n v s.g = some (v', g')) : ∃ Z', Frz s Z' g' ∧ QC Z' v' u := by
  cases v with
  | s x =>
    obtain ⟨y, rfl, hy⟩ := CR.s' h
    simp only [frzC] at e
    split at e
    · next hx =>
      cases e
      obtain ⟨Z', f, q⟩ := frzV_ok n s hs _ _ _ _ hy hx
      exact ⟨Z', f, q⟩
    · cases e
  | agg cs =>
    cases u with
    | s _ => exact absurd h id
    | agg ds =>
      simp only [frzC] at e
      split at e
      · next hx =>
        cases e
        obtain ⟨Z', f, q⟩ := frzVs_ok (frzV_ok n) cs hs h hx
        exact ⟨Z', f, q⟩
      · cases e
theorem frzCs_ok {n : Nat} : ∀ (l : List PC) {s : Sta}, PSim s → ∀ {us : List CV} {l' : List PC} {g' : PHeap}, All₂ (CR s.Z s.p) l us → frzCs n l s.g = some (l', g') → ∃ Z', Frz s Z' g' ∧ All₂ (QC Z') l' us
  | [], s, hs, us, l', g', h, e => by
    cases h
    simp only [frzCs, Option.some.injEq, Prod.mk.injEq] at e
    obtain ⟨rfl, rfl⟩ := e
    exact ⟨s.Z, Frz.refl hs, .nil⟩
  | x :: l, s, hs, us, l', g', h, e => by
    cases h with
    | cons h1 h2 =>
    simp only [frzCs] at e
    split at e
    · next y g1 hy =>
      split at e
      · next ys g2 hys =>
        cases e
        obtain ⟨Z1, f1, q1⟩ := frzC_ok hs h1 hy
        obtain ⟨Z2, f2, q2⟩ := frzCs_ok l (s := ⟨Z1, s.p, g1, s.h⟩) f1.sim (forall₂_mono h2 fun _ _ h => h.mono (f1.ext 0 0).zle (fun _ _ h => h)) hys
        exact ⟨Z2, f1.trans hs f2, .cons (q1.mono (f2.ext 0 0).zle) q2⟩
      · cases e
    · cases e
theorem frzA_ok {n : Nat} {s : Sta} (hs : PSim s) {v : PA} {u : AV} {v' : PA} {g' : PHeap} (h : AR s.Z s.p v u) (e : frzA n v s.g = some (v', g')) : ∃ Z', Frz s Z' g' ∧ QA Z' v' u := by
  cases v with
  | v x =>
    obtain ⟨y, rfl, hy⟩ := h.cv
    simp only [frzA] at e
    split at e
    · next hx =>
      cases e
      obtain ⟨Z', f, q⟩ := frzC_ok hs hy hx
      exact ⟨Z', f, q⟩
    · cases e
  | tup xs =>
    obtain ⟨ys, rfl, hy⟩ := h.tup'
    simp only [frzA] at e
    split at e
    · next hx =>
      cases e
      obtain ⟨Z', f, q⟩ := frzCs_ok xs hs hy hx
      exact ⟨Z', f, q⟩
    · cases e
theorem frzAs_ok {n : Nat} : ∀ (l : List PA) {s : Sta}, PSim s → ∀ {us : List AV} {l' : List PA} {g' : PHeap}, All₂ (AR s.Z s.p) l us → frzAs n l s.g = some (l', g') → ∃ Z', Frz s Z' g' ∧ All₂ (QA Z') l' us
  | [], s, hs, us, l', g', h, e => by
    cases h
    simp only [frzAs, Option.some.injEq, Prod.mk.injEq] at e
    obtain ⟨rfl, rfl⟩ := e
    exact ⟨s.Z, Frz.refl hs, .nil⟩
  | x :: l, s, hs, us, l', g', h, e => by
    cases h with
    | cons h1 h2 =>
    simp only [frzAs] at e
    split at e
    · next y g1 hy =>
      split at e
      · next ys g2 hys =>
        cases e
        obtain ⟨Z1, f1, q1⟩ := frzA_ok hs h1 hy
        obtain ⟨Z2, f2, q2⟩ := frzAs_ok l (s := ⟨Z1, s.p, g1, s.h⟩) f1.sim (forall₂_mono h2 fun _ _ h => h.mono (f1.ext 0 0).zle (fun _ _ h => h)) hys
        exact ⟨Z2, f1.trans hs f2, .cons (q1.mono (f2.ext 0 0).zle) q2⟩
      · cases e
    · cases e
end Go.Pv
end
section
namespace Go.Pv
open Go.Vm
open Go.Vm.Key (kn)
def CLe (c c' : Caller) : Prop := ∀ f a h r, c f a h = some r → c' f a h = some r
variable {c c' : Caller}
theorem act_mono (hc : CLe c c') {a : VAct} {args : List AV} {h : Heap} {r : AV × Heap} (e : a.run c args h = some r) : a.run c' args h = some r := by
  cases a with
  | op o => exact e
  | call f => exact hc _ _ _ _ e
  | callv =>
    simp only [VAct.run] at e ⊢
    split at e
    · exact hc _ _ _ _ e
    · cases e
theorem oper_mono (hc : CLe c c') {o : VOper} {fr : Fr} {h : Heap} {r : Fr × Heap} (e : o.run c fr h = some r) : o.run c' fr h = some r := by
  unfold VOper.run at e ⊢
  split at e
  · next hw =>
    split at e
    · next args ha =>
      split at e
      · next v h' hr => rw [act_mono hc hr]; exact e
      · cases e
    · cases e
  · next hw => exact e
  · cases e
theorem ops_mono (hc : CLe c c') : ∀ (l : List VOper) {fr : Fr} {h : Heap} {r : Fr × Heap}, runOps c l fr h = some r → runOps c' l fr h = some r
  | [], _, _, _, e => e
  | o :: l, fr, h, r, e => by
    simp only [runOps] at e ⊢
    split at e
    · next fr1 h1 h2 => rw [oper_mono hc h2]; exact ops_mono hc l e
    · cases e
theorem drawn_mono (hc : CLe c c') (lo hi : Key) : ∀ (l : List DOp) {k : Key} {snaps : List Heap} {fr : Fr} {h : Heap} {r : Fr × Heap}, runDrawn c lo hi l k snaps fr h = some r → runDrawn c' lo hi l k snaps fr h = some r
  | [], _, _, _, _, _, e => e
  | d :: l, k, snaps, fr, h, r, e => by
    simp only [runDrawn] at e ⊢
    split at e
    · next hk =>
      split at e
      · next fr1 h1 h2 => rw [oper_mono hc h2]; exact drawn_mono hc lo hi l e
      · cases e
    · next hk =>
      split at e
      · next fr1 h1 h2 => rw [oper_mono hc h2]; exact drawn_mono hc lo hi l e
      · cases e
    · next hk =>
      split at e
      · next o hw ha =>
        split at e
        · next args hf =>
          split at e
          · next v h1 hr =>
            split at e
            · next hcond =>
              simp only [hcond, if_true]
              exact drawn_mono hc lo hi l e
            · cases e
          · cases e
        · cases e
      · next hw =>
        exact drawn_mono hc lo hi l e
      · cases e
abbrev noO : Oracle := fun _ => none
abbrev Ex := VCode → Fr → Heap → Option (VExit × Fr × Heap)
def XLe (x x' : Ex) : Prop := ∀ cd fr h r, x cd fr h = some r → x' cd fr h = some r
theorem callV_mono {F : Funcs} {x x' : Ex} (hx : XLe x x') : CLe (callV F noO x) (callV F noO x') := by
  intro f a h r e
  simp only [callV] at e ⊢
  split at e
  · next vf hf =>
    split at e
    · cases e
    · next x1 fr1 h1 hne hr =>
      rw [hx _ _ _ _ hr]
      cases x1 with
      | exit id => exact absurd rfl (hne id)
      | normal => exact e
      | ret => exact e
    · cases e
  · cases e
section
variable {F : Funcs} {O : Oracle} {n : Nat} {fr : Fr} {h : Heap}
theorem ex_region (ops : List VOper) : exec F O (n + 1) (.region ops) fr h = match runOps (callV F O (exec F O n)) ops fr h with
      | some (fr, h) => some (.normal, fr, h)
      | none => none := rfl
theorem ex_drawn (ops : List DOp) : exec F O (n + 1) (.drawn ops) fr h = match runDrawn (callV F O (exec F O n)) h.next (succs h.next (nAlloc ops)) ops h.next [] fr { h with next := succs h.next (nAlloc ops) } with
      | some (fr, h) => some (.normal, fr, h)
      | none => none := rfl
theorem ex_seq (a b : VCode) : exec F O (n + 1) (.seq a b) fr h = match exec F O n a fr h with
      | some (.normal, fr, h) => exec F O n b fr h
      | r => r := rfl
theorem ex_cond (x : VX) (a b : VCode) : exec F O (n + 1) (.cond x a b) fr h = match x.eval fr with
      | some (.v (.s (.bool true))) => exec F O n a fr h
      | some (.v (.s (.bool false))) => exec F O n b fr h
      | _ => none := rfl
theorem ex_block (id : Nat) (a : VCode) : exec F O (n + 1) (.block id a) fr h = match exec F O n a fr h with
      | some (.exit j, fr, h) => if j = id then some (.normal, fr, h) else some (.exit j, fr, h)
      | r => r := rfl
theorem ex_loop (a : VCode) : exec F O (n + 1) (.loop a) fr h = match exec F O n a fr h with
      | some (.normal, fr, h) => exec F O n (.loop a) fr h
      | r => r := rfl
end
theorem exec_step {F : Funcs} : ∀ n, XLe (exec F noO n) (exec F noO (n + 1))
  | 0 => by intro cd fr h r e; cases e
  | n + 1 => by
    have ih := exec_step (F := F) n
    have hc := callV_mono (F := F) ih
    intro cd fr h r e
    cases cd with
    | skip => exact e
    | region ops =>
      rw [ex_region] at e ⊢
      split at e
      · next fr1 h1 h2 => rw [ops_mono hc ops h2]; exact e
      · cases e
    | drawn ops =>
      rw [ex_drawn] at e ⊢
      split at e
      · next fr1 h1 h2 => rw [drawn_mono hc _ _ ops h2]; exact e
      · cases e
    | seq a b =>
      rw [ex_seq] at e ⊢
      cases hr : exec F noO n a fr h with
      | none => rw [hr] at e; cases e
      | some q =>
        rw [hr] at e; rw [ih _ _ _ _ hr]
        obtain ⟨x, fr1, h1⟩ := q
        cases x with
        | normal => exact ih _ _ _ _ e
        | exit id => exact e
        | ret => exact e
    | cond x a b =>
      rw [ex_cond] at e ⊢
      split at e
      · next h1 => exact ih _ _ _ _ e
      · next h1 => exact ih _ _ _ _ e
      · cases e
    | block id a =>
      rw [ex_block] at e ⊢
      cases hr : exec F noO n a fr h with
      | none => rw [hr] at e; cases e
      | some q =>
        rw [hr] at e; rw [ih _ _ _ _ hr]
        obtain ⟨x, fr1, h1⟩ := q
        cases x with
        | normal => exact e
        | exit id => exact e
        | ret => exact e
    | loop a =>
      rw [ex_loop] at e ⊢
      cases hr : exec F noO n a fr h with
      | none => rw [hr] at e; cases e
      | some q =>
        rw [hr] at e; rw [ih _ _ _ _ hr]
        obtain ⟨x, fr1, h1⟩ := q
        cases x with
        | normal => exact ih _ _ _ _ e
        | exit id => exact e
        | ret => exact e
    | exit id => exact e
    | ret => exact e
theorem exec_le {F : Funcs} {n m : Nat} (h : n ≤ m) : XLe (exec F noO n) (exec F noO m) := by
  induction h with
  | refl => exact fun _ _ _ _ e => e
  | step _ ih => exact fun cd fr h r e => exec_step _ _ _ _ _ (ih cd fr h r e)
theorem call_le {F : Funcs} {n m : Nat} (h : n ≤ m) : CLe (callV F noO (exec F noO n)) (callV F noO (exec F noO m)) := callV_mono (exec_le h)
end Go.Pv
end
section
namespace Go.Pv
open Go.Vm
open Go.Vm.Key (kn)
def CSim (F : Funcs) (pc : PCaller) : Prop := ∀ (f : Nat) (s : Sta), Good s → ∀ (args : List PA) (vs : List AV) (v : PA) (g' : PHeap), All₂ (AR s.Z s.p) args vs → pc f args s.g = some (v, g') →
  ∃ N u h' Z' p', callV F noO (exec F noO N) f vs s.h = some (u, h') ∧ Good ⟨Z', p', g', h'⟩ ∧ PExt s.g.next.toNat s.h.next.toNat s ⟨Z', p', g', h'⟩ ∧ AR Z' p' v u
def FR (Z : ZM) (p : Ren) (fr : PFr) (fr1 : Fr) : Prop := ∀ k v, fr.get k = some v → ∃ u, fr1.get k = some u ∧ AR Z p v u
variable {Z : ZM} {p : Ren} {fr : PFr} {fr1 : Fr} {F : Funcs} {pc : PCaller}
theorem FR.mono {Z' : ZM} {p' : Ren} (hz : ZLe Z Z') (hp : PLe p p') (h : FR Z p fr fr1) : FR Z' p' fr fr1 := by
  intro k v e
  obtain ⟨u, h1, h2⟩ := h k v e
  exact ⟨u, h1, h2.mono hz hp⟩
theorem putP_get (d : Option Key) (v : PA) (k : Key) : (putP fr d v).get k = if d = some k then some v else fr.get k := by
  cases d with
  | none => simp [putP]
  | some d =>
    simp only [putP, Tr.get_upd, Option.some.injEq]
theorem putV_get' (d : Option Key) (v : AV) (k : Key) : (putV fr1 d v).get k = if d = some k then some v else fr1.get k := by
  cases d with
  | none => simp [putV]
  | some d =>
    simp only [putV, Tr.get_upd, Option.some.injEq]
theorem FR.put (h : FR Z p fr fr1) {v : PA} {u : AV} (hv : AR Z p v u) (d : Option Key) : FR Z p (putP fr d v) (putV fr1 d u) := by
  intro k w e
  rw [putP_get] at e
  rw [putV_get']
  split at e
  · next hd => cases e; rw [if_pos hd]; exact ⟨u, rfl, hv⟩
  · next hd => rw [if_neg hd]; exact h k w e
theorem eval_rel (h : FR Z p fr fr1) {x : VX} {v : PA} (e : evalP fr x = some v) : ∃ u, x.eval fr1 = some u ∧ AR Z p v u := by
  cases x with
  | t k => exact h k v e
  | c a => exact ⟨a, rfl, ofAV_rel e⟩
theorem fetch_rel (h : FR Z p fr fr1) : ∀ {xs : List VX} {vs : List PA}, fetchP fr xs = some vs → ∃ us, fetch fr1 xs = some us ∧ All₂ (AR Z p) vs us
  | [], vs, e => by cases e; exact ⟨[], rfl, .nil⟩
  | x :: xs, vs, e => by
    simp only [fetchP] at e
    split at e
    · next v hv =>
      split at e
      · next vs' hvs =>
        cases e
        obtain ⟨u, h1, h2⟩ := eval_rel h hv
        obtain ⟨us, h3, h4⟩ := fetch_rel h hvs
        exact ⟨u :: us, by simp only [fetch, h1, h3], .cons h2 h4⟩
      · cases e
    · cases e
theorem bool_back {v : PA} {c : Bool} (h : AR Z p v (.v (.s (.bool c)))) : v = .v (.s (.bool c)) := by
  cases v with
  | tup _ => exact absurd h id
  | v x => cases x with
    | agg _ => exact absurd h id
    | s x =>
      have h : VRel Z p x (.bool c) := h
      cases x with
      | ptr b o => obtain ⟨_, _, e⟩ := h; cases e
      | slice b o len es cap => obtain ⟨_, _, e⟩ := h; cases e
      | map b => obtain ⟨_, _, e⟩ := h; cases e
      | func f fs cs => obtain ⟨_, _, e, _⟩ := h; cases e
      | bool b => have h : QRel Z (.bool b) (.bool c) := h; cases h; rfl
      | int k n => have h : QRel Z (.int k n) (.bool c) := h; cases h
      | str l => have h : QRel Z (.str l) (.bool c) := h; cases h
      | nilp => have h : QRel Z .nilp (.bool c) := h; cases h
      | nils => have h : QRel Z .nils (.bool c) := h; cases h
      | nilm => have h : QRel Z .nilm (.bool c) := h; cases h
      | nilf => have h : QRel Z .nilf (.bool c) := h; cases h
      | lst es l cap => have h : QRel Z (.lst es l cap) (.bool c) := h; cases h
      | rp l => have h : QRel Z (.rp l) (.bool c) := h; cases h
theorem wanted_rel (h : FR Z p fr fr1) {g : Option (Key × Bool)} {c : Bool} (e : wantedP fr g = some c) : wantedV fr1 g = some c := by
  unfold wantedP at e
  split at e
  · exact e
  · next k b =>
    split at e
    · next b' hb =>
      obtain ⟨u, h1, h2⟩ := h _ _ hb
      obtain ⟨z, rfl, hz⟩ := h2.s
      cases QRel.bool' hz
      simp only [wantedV, h1]; exact e
    · next v hnb hb =>
      obtain ⟨u, h1, h2⟩ := h _ _ hb
      simp only [wantedV, h1]
      split
      · next c' hc' => cases hc'; exact absurd (bool_back h2) (hnb c')
      · exact e
      · next h0 => cases h0
    · cases e
theorem ptrAs_rel {l : List (Key × Nat)} {m : List (Key × Nat)} (h : All₂ (KRel p) l m) : All₂ (AR Z p) (ptrAs l) (m.map fun q => AV.v (.s (.ptr q.1 q.2))) := by
  induction h with
  | nil => exact .nil
  | cons h _ ih =>
    refine .cons ?_ ih
    obtain ⟨h1, h2⟩ := h
    exact ⟨_, h1, by rw [h2]⟩
variable {s : Sta}
theorem act_sim (hc : CSim F pc) (hs : Good s) {a : VAct} {args : List PA} {vs : List AV} {v : PA} {g' : PHeap} (ha : All₂ (AR s.Z s.p) args vs) (e : actP pc a args s.g = some (v, g')) :
    ∃ N u h' Z' p', a.run (callV F noO (exec F noO N)) vs s.h = some (u, h') ∧ Good ⟨Z', p', g', h'⟩ ∧ PExt s.g.next.toNat s.h.next.toNat s ⟨Z', p', g', h'⟩ ∧ AR Z' p' v u := by
  unfold actP at e
  split at e
  · obtain ⟨u, h', p', h1, h2, h3, h4⟩ := op_sim _ s hs args vs v g' ha e
    exact ⟨0, u, h', s.Z, p', h1, h2, h3, h4⟩
  · exact hc _ s hs args vs v g' ha e
  · split at e
    · next f fs cs xs =>
      cases ha with
      | cons h1 h2 =>
      obtain ⟨z, rfl, fs', cs', rfl, h3, h4⟩ := h1.s
      obtain ⟨N, u, h', Z', p', h5, h6⟩ := hc f s hs _ _ v g' (forall₂_append (forall₂_append (ptrAs_rel h3) h2) (ptrAs_rel h4)) e
      exact ⟨N, u, h', Z', p', h5, h6⟩
    · cases e
theorem unit_rel : AR Z p .unit .unit := AR.mkT .nil
theorem oper_sim (hc : CSim F pc) (hs : Good s) {o : VOper} (hf : FR s.Z s.p fr fr1) {fr' : PFr} {g' : PHeap} (e : operP pc o fr s.g = some (fr', g')) :
    ∃ N v u h' Z' p', o.run (callV F noO (exec F noO N)) fr1 s.h = some (putV fr1 o.dst u, h') ∧ fr' = putP fr o.dst v ∧ Good ⟨Z', p', g', h'⟩ ∧ PExt s.g.next.toNat s.h.next.toNat s ⟨Z', p', g', h'⟩ ∧ AR Z' p' v u := by
  unfold operP at e
  split at e
  · next hw =>
    split at e
    · next args ha =>
      split at e
      · next v g1 hr =>
        cases e
        obtain ⟨us, h1, h2⟩ := fetch_rel hf ha
        obtain ⟨N, u, h', Z', p', h3, h4, h5, h6⟩ := act_sim hc hs h2 hr
        exact ⟨N, v, u, h', Z', p', by simp only [VOper.run, wanted_rel hf hw, h1, h3], rfl, h4, h5, h6⟩
      · cases e
    · cases e
  · next hw =>
    cases e
    exact ⟨0, .unit, .unit, s.h, s.Z, s.p, by simp only [VOper.run, wanted_rel hf hw], rfl, hs, PExt.refl _ _ _, unit_rel⟩
  · cases e
theorem ops_sim (hc : CSim F pc) : ∀ (l : List VOper) {s : Sta} {fr : PFr} {fr1 : Fr}, Good s → FR s.Z s.p fr fr1 → ∀ {fr' : PFr} {g' : PHeap}, opsP pc l fr s.g = some (fr', g') →
    ∃ N fr1' h' Z' p', runOps (callV F noO (exec F noO N)) l fr1 s.h = some (fr1', h') ∧ Good ⟨Z', p', g', h'⟩ ∧ PExt s.g.next.toNat s.h.next.toNat s ⟨Z', p', g', h'⟩ ∧ FR Z' p' fr' fr1'
  | [], s, fr, fr1, hs, hf, fr', g', e => by cases e; exact ⟨0, fr1, s.h, s.Z, s.p, rfl, hs, PExt.refl _ _ _, hf⟩
  | o :: l, s, fr, fr1, hs, hf, fr', g', e => by
    simp only [opsP] at e
    split at e
    · next fr2 g2 ho =>
      obtain ⟨N, v, u, h2, Z2, p2, h3, rfl, h4, h5, h6⟩ := oper_sim hc hs hf ho
      obtain ⟨N', fr3, h7, Z3, p3, h8, h9, h10, h11⟩ := ops_sim hc l h4 ((hf.mono h5.zle h5.ple).put h6 o.dst) e
      refine ⟨max N N', fr3, h7, Z3, p3, ?_, h9, h5.trans hs.toPSim h10 h5.nx.1 h5.nx.2, h11⟩
      simp only [runOps, oper_mono (call_le (Nat.le_max_left N N')) h3]
      exact ops_mono (call_le (Nat.le_max_right N N')) l h8
    · cases e
theorem still_of_apart {o n : Nat} : ∀ {l : List (Nat × Nat)}, apartP o n l = true → ∀ i, o ≤ i → i < o + n → Still l i
  | [], _, i, _, _ => by intro q hq; cases hq
  | (a, m) :: l, h, i, h1, h2 => by
    intro q hq
    simp only [apartP, Bool.and_eq_true, Bool.or_eq_true, Nat.ble_eq] at h
    rcases List.mem_cons.1 hq with rfl | hq
    · simp only; omega
    · exact still_of_apart h.2 i h1 h2 q hq
theorem sameRd_cells {lo lov : Nat} {s s' : Sta} (hs : PSim s) (he : PExt lo lov s s') {k : Key} {o n : Nat} (h : sameRd (some (k, some (o, n))) s.g s'.g = true) :
    ∃ x x' b, s.g.get k = some x ∧ s'.g.get k = some x' ∧ s.p k = some b ∧ ∃ y y', s.h.get b = some y ∧ s'.h.get b = some y' ∧ ∃ new, Keep new x.body x'.body y.body y'.body ∧ ∀ i, o ≤ i → i < o + n → Still new i := by
  simp only [sameRd] at h
  split at h
  · next x x' h1 h2 =>
    obtain ⟨b, y, h3, h4, _⟩ := hs.blk k x h1
    obtain ⟨new, h5, h6⟩ := he.log k x x' h1 h2
    obtain ⟨y', h7, h8⟩ := h6 b y h3 h4
    rw [h5] at h
    have : (new ++ x.log).take ((new ++ x.log).length - x.log.length) = new := by simp
    rw [this] at h
    exact ⟨x, x', b, h1, h2, h3, y, y', h4, h7, new, h8, still_of_apart h⟩
  · cases h
theorem sameRd_all {lo lov : Nat} {s s' : Sta} (hs : PSim s) (he : PExt lo lov s s') {k : Key} (h : sameRd (some (k, none)) s.g s'.g = true) :
    ∃ x x' b, s.g.get k = some x ∧ s'.g.get k = some x' ∧ s.p k = some b ∧ ∃ y y', s.h.get b = some y ∧ s'.h.get b = some y' ∧ x'.body = x.body ∧ y'.body = y.body := by
  simp only [sameRd] at h
  split at h
  · next x x' h1 h2 =>
    obtain ⟨b, y, h3, h4, _⟩ := hs.blk k x h1
    obtain ⟨new, h5, h6⟩ := he.log k x x' h1 h2
    obtain ⟨y', h7, h8⟩ := h6 b y h3 h4
    rw [h5] at h
    have : new = [] := by
      simp only [List.length_append, Nat.beq_eq] at h
      exact List.length_eq_zero_iff.1 (by omega)
    exact ⟨x, x', b, h1, h2, h3, y, y', h4, h7, (h8.same this).1, (h8.same this).2⟩
  · cases h
theorem pread_same {g g' : PHeap} {k : Key} {o n : Nat} {l : List PV} (h : g'.read k o n = some l) (hn : n ≠ 0) {x x' : PBlk} (h1 : g.get k = some x) (h2 : g'.get k = some x')
    (hk : ∀ c', x'.body = .cells c' → ∃ c, x.body = .cells c ∧ c.length = c'.length ∧ ∀ i, o ≤ i → i < o + n → c[i]? = c'[i]?) : g.read k o n = some l := by
  unfold PHeap.read at h ⊢
  rw [if_neg hn] at h ⊢
  split at h
  · next c' hc' =>
    split at h
    · next hle =>
      cases h
      obtain ⟨own, frz, anc, log, hx⟩ := cells_there (s := ⟨fun _ => none, fun _ => none, g', default⟩) hc'
      simp only at hx
      rw [h2] at hx; cases hx
      obtain ⟨c, h3, h4, h5⟩ := hk c' rfl
      obtain ⟨body, own', frz', anc', log'⟩ := x
      simp only at h3; subst h3
      have : g.cells k = some c := by simp [PHeap.cells, h1]
      simp only [this, h4, hle, if_true, Option.some.injEq]
      apply List.ext_getElem?
      intro i
      rw [List.getElem?_take, List.getElem?_take]
      split
      · next hi => rw [List.getElem?_drop, List.getElem?_drop]; exact h5 _ (by omega) (by omega)
      · rfl
    · cases h
  · cases h
theorem vread_same {g g' : Heap} {k : Key} {o n : Nat} {l : List SV} (h : g'.read k o n = some l) (hn : n ≠ 0) {x x' : Blk} (h1 : g.get k = some x) (h2 : g'.get k = some x')
    (hk : ∀ c' m, x'.body = .cells c' m → ∃ c, x.body = .cells c m ∧ ∀ i, o ≤ i → i < o + n → c.get (kn i) = c'.get (kn i)) : g.read k o n = some l := by
  unfold Heap.read at h ⊢
  rw [if_neg hn] at h ⊢
  split at h
  · next c' m hc' =>
    split at h
    · next hle =>
      unfold Heap.cells at hc'
      split at hc'
      · next c0 n0 own anc hx =>
        cases hc'
        rw [h2] at hx; cases hx
        obtain ⟨c, h3, h4⟩ := hk _ _ rfl
        obtain ⟨body, own', anc'⟩ := x
        simp only at h3; subst h3
        have : g.cells k = some (c, m) := by simp [Heap.cells, h1]
        simp only [this, hle, if_true]
        have key : ∀ (n o : Nat) (l : List SV), (∀ i, o ≤ i → i < o + n → c.get (kn i) = c'.get (kn i)) → readN c' o n = some l → readN c o n = some l := by
          intro n
          induction n with
          | zero => intro o l _ e; exact e
          | succ n ih =>
            intro o l hh e
            simp only [readN] at e ⊢
            rw [hh o (by omega) (by omega)]
            split at e
            · next v hv =>
              split at e
              · next l' hl =>
                simp only [ih (o + 1) l' (fun i h1 h2 => hh i (by omega) (by omega)) hl]
                exact e
              · cases e
            · cases e
        exact key n o l h4 h
      · cases hc'
    · cases h
  · cases h
theorem Keep.cells' {new : List (Nat × Nat)} {B B' : PBody} {C C' : Body} (h : Keep new B B' C C') {Z Z' : ZM} {p p' : Ren} (hb : BR Z p B C) (hb' : BR Z' p' B' C') {o n : Nat} (hst : ∀ i, o ≤ i → i < o + n → Still new i) :
    (∀ c', B' = .cells c' → ∃ c, B = .cells c ∧ c.length = c'.length ∧ ∀ i, o ≤ i → i < o + n → c[i]? = c'[i]?) ∧
    (∀ c' m, C' = .cells c' m → ∃ c, C = .cells c m ∧ ∀ i, o ≤ i → i < o + n → c.get (kn i) = c'.get (kn i)) := by
  have main : ∀ l, B = .cells l → (∀ c', B' = .cells c' → ∃ c, B = .cells c ∧ c.length = c'.length ∧ ∀ i, o ≤ i → i < o + n → c[i]? = c'[i]?) ∧
    (∀ c' m, C' = .cells c' m → ∃ c, C = .cells c m ∧ ∀ i, o ≤ i → i < o + n → c.get (kn i) = c'.get (kn i)) := by
    intro l hl
    subst hl
    obtain ⟨c, rfl, _⟩ := hb.cells
    obtain ⟨l', c', rfl, rfl, h3, h4⟩ := h.cells l c _ rfl rfl
    exact ⟨fun c1 e => by cases e; exact ⟨l, rfl, h3.symm, fun i h1 h2 => (h4 i (hst i h1 h2)).1.symm⟩, fun c1 m e => by cases e; exact ⟨c, rfl, fun i h1 h2 => (h4 i (hst i h1 h2)).2.symm⟩⟩
  refine ⟨fun c' e => ?_, fun c' m e => ?_⟩
  · obtain ⟨l, hl⟩ := h.kind c' e
    exact (main l hl).1 c' e
  · subst e
    cases B' with
    | cells l' =>
      obtain ⟨l, hl⟩ := h.kind l' rfl
      exact (main l hl).2 c' m rfl
    | map _ => exact absurd hb' id
    | iter _ _ _ => exact absurd hb' id
theorem sameRd_both {lo lov : Nat} {s s' : Sta} (hs : PSim s) (hs' : PSim s') (he : PExt lo lov s s') {k : Key} {o n : Nat} (h : sameRd (some (k, some (o, n))) s.g s'.g = true) (hn : n ≠ 0) {b : Key} (hb : s'.p k = some b) :
    (∀ l, s'.g.read k o n = some l → s.g.read k o n = some l) ∧ (∀ l, s'.h.read b o n = some l → s.h.read b o n = some l) := by
  obtain ⟨x, x', b1, h1, h2, h3, y, y', h4, h5, new, h6, h7⟩ := sameRd_cells hs he h
  have h8 := he.ple _ _ h3
  rw [hb] at h8; cases h8
  obtain ⟨b2, y2, e1, e2, e3⟩ := hs.blk k x h1
  rw [h3] at e1; cases e1
  rw [h4] at e2; cases e2
  obtain ⟨b3, y3, f1, f2, f3⟩ := hs'.blk k x' h2
  rw [hb] at f1; cases f1
  rw [h5] at f2; cases f2
  obtain ⟨m1, m2⟩ := h6.cells' e3.body f3.body h7
  exact ⟨fun l e => pread_same e hn h1 h2 m1, fun l e => vread_same e hn h4 h5 m2⟩
end Go.Pv
end
section
namespace Go.Pv
open Go.Vm
open Go.Vm.Key (kn)
theorem blindP_ok {o : VOp} (hb : blindP o = true) (args : List PA) : ∃ r : Option PA, ∀ h : PHeap, opP o args h = r.map fun v => (v, h) := by
  refine ⟨(opP o args default).map (·.1), fun h => ?_⟩
  cases o <;> first | (simp [blindP] at hb; done) | skip
  case mov => simp only [opP, pMov]; split <;> rfl
  case pick => simp only [opP, pPick]; split <;> rfl
  case build => simp only [opP, pBuild]; split <;> (try split) <;> rfl
  case nilchk => simp only [opP, pNilchk]; split <;> rfl
  case bin => simp only [opP, pBin, noPS]; split <;> (try split) <;> rfl
  case eq => simp only [opP, pEq]; split <;> (try split) <;> rfl
  case un => simp only [opP, pUn, noPS]; split <;> (try split) <;> rfl
  case conv => simp only [opP, pConv]; split <;> rfl
  case mkfunc => simp only [opP, pMkfunc]; split <;> rfl
  case slice k lo hi mx =>
    simp only [opP, pSlice]
    split
    · split
      · split
        · split
          · rfl
          · split <;> rfl
        · unfold noPS; split <;> rfl
        · unfold noPS; split <;> rfl
        · rfl
      · rfl
    · rfl
  case faddr => simp only [opP, pFaddr]; split <;> (try split) <;> rfl
  case field => simp only [opP, pField, noP]; split <;> (try split) <;> rfl
  case iarr => simp only [opP, pIarr]; split <;> (try split) <;> rfl
  case isl => simp only [opP, pIsl]; split <;> (try split) <;> (try split) <;> rfl
  case idx => simp only [opP, pIdx, noP]; split <;> (try split) <;> (try split) <;> rfl
  case sidx => simp only [opP, pSidx]; split <;> (try split) <;> (try split) <;> rfl
  case extract => simp only [opP, pExtract, noP]; split <;> (try split) <;> rfl
  case lens => simp only [opP, pLens]; split <;> rfl
  case lenstr => simp only [opP, pLenstr]; split <;> rfl
  case lenarr => simp only [opP, pLenarr]; split <;> rfl
  case cap => simp only [opP, pCap]; split <;> rfl
  case minmax => simp only [opP, pMinmax, noPS]; split <;> (try split) <;> rfl
  all_goals rfl
theorem blind_rd {o : VOp} (hb : blindP o = true) (vs : List AV) : rdBlk o vs = none := by
  cases o <;> first | (simp [blindP] at hb; done) | rfl
variable {lo lov : Nat} {s s' : Sta}
theorem z_cells (hs : PSim s) (hs' : PSim s') (he : PExt lo lov s s') {b : Key} (hz : s.Z b ≠ none) {c : Tr SV} {m : Nat} (h : s'.h.cells b = some (c, m)) : s.h.cells b = some (c, m) := by
  cases h1 : s.Z b with
  | none => exact absurd h1 hz
  | some body =>
    obtain ⟨⟨b1, o1, a1⟩, e1, e2⟩ := hs.z b body h1
    obtain ⟨⟨b2, o2, a2⟩, f1, f2⟩ := hs'.z b body (he.zle _ _ h1)
    simp only at e2 f2
    subst e2; subst f2
    simp only [Heap.cells, f1] at h
    simp only [Heap.cells, e1]
    cases b2 <;> first | exact h | cases h
theorem z_read (hs : PSim s) (hs' : PSim s') (he : PExt lo lov s s') {b : Key} {o n : Nat} (hz : n ≠ 0 → s.Z b ≠ none) {l : List SV} (h : s'.h.read b o n = some l) : s.h.read b o n = some l := by
  unfold Heap.read at h ⊢
  split at h
  · next h0 => rw [if_pos h0]; exact h
  · next h0 =>
    rw [if_neg h0]
    split at h
    · next c m hc => rw [z_cells hs hs' he (hz h0) hc]; exact h
    · cases h
theorem quiet_same (hs : PSim s) (hs' : PSim s') (he : PExt lo lov s s') {o : VOp} (hk : o.kind = .quiet) {args : List PA} {vs : List AV} {v : PA} (ha : All₂ (AR s'.Z s'.p) args vs) (e : opP o args s'.g = some (v, s'.g)) {u : AV}
    (hu : o.run vs s'.h = some (u, s'.h)) (hrd : sameRd (rdP o args) s.g s'.g = true) (hrf : rdF o args = true → All₂ (AR s.Z s.p) args vs) : opP o args s.g = some (v, s.g) ∧ o.run vs s.h = some (u, s.h) := by
  by_cases hb : blindP o = true
  · obtain ⟨r, hr⟩ := blindP_ok hb args
    rw [hr] at e ⊢
    cases r with
    | none => cases e
    | some w =>
      simp only [Option.map_some, Option.some.injEq, Prod.mk.injEq] at e ⊢
      refine ⟨⟨e.1, trivial⟩, (quiet_run hk hu).2 s.h fun b h => ?_⟩
      rw [blind_rd hb] at h; cases h
  · cases o <;> first | exact absurd rfl hb | (simp [VOp.kind] at hk; done) | skip
    case load1 =>
      simp only [opP, pLoad1] at e
      split at e
      · next b o =>
        obtain ⟨y, rfl, h⟩ := All₂.one ha
        obtain ⟨z, rfl, b', hp, rfl⟩ := h.s
        obtain ⟨m1, m2⟩ := sameRd_both hs hs' he hrd (by omega) hp
        split at e
        · next x hx =>
          cases e
          simp only [VOp.run, rLoad1] at hu
          split at hu
          · next w hw =>
            cases hu
            exact ⟨by simp only [opP, pLoad1, m1 _ hx], by simp only [VOp.run, rLoad1, m2 _ hw]⟩
          · cases hu
        · cases e
      · next x l =>
        obtain ⟨y, rfl, h⟩ := All₂.one (hrf rfl)
        obtain ⟨z, rfl, hz⟩ := h.s
        obtain ⟨b, o, f, rfl, h1, h2⟩ := QRel.rp' hz
        cases e
        simp only [VOp.run, rLoad1] at hu
        split at hu
        · next w hw =>
          cases hu
          obtain ⟨c, m, h3, _⟩ := h1 (by simp)
          have := z_read hs hs' he (fun _ => by rw [h3]; simp) hw
          exact ⟨rfl, by simp only [VOp.run, rLoad1, this]⟩
        · cases hu
      · cases e
    case loadn n =>
      simp only [opP, pLoadn] at e
      split at e
      · next b o =>
        obtain ⟨y, rfl, h⟩ := All₂.one ha
        obtain ⟨z, rfl, b', hp, rfl⟩ := h.s
        split at e
        · next x hx =>
          cases e
          simp only [VOp.run, rLoadn] at hu
          split at hu
          · next w hw =>
            cases hu
            by_cases h0 : n = 0
            · subst h0
              simp only [PHeap.read, Heap.read, if_true, Option.some.injEq] at hx hw
              subst hx; subst hw
              exact ⟨by simp [opP, pLoadn, PHeap.read], by simp [VOp.run, rLoadn, Heap.read]⟩
            · simp only [rdP, h0, if_false] at hrd
              obtain ⟨m1, m2⟩ := sameRd_both hs hs' he hrd h0 hp
              exact ⟨by simp only [opP, pLoadn, m1 _ hx], by simp only [VOp.run, rLoadn, m2 _ hw]⟩
          · cases hu
        · cases e
      · next l =>
        obtain ⟨y, rfl, h⟩ := All₂.one (hrf rfl)
        obtain ⟨z, rfl, hz⟩ := h.s
        obtain ⟨b, o, f, rfl, h1, h2⟩ := QRel.rp' hz
        split at e
        · next hn =>
          cases e
          simp only [VOp.run, rLoadn] at hu
          split at hu
          · next w hw =>
            cases hu
            have := z_read hs hs' he (fun h0 => by obtain ⟨c, m, h3, _⟩ := h1 (by omega); rw [h3]; simp) hw
            exact ⟨by simp only [opP, pLoadn]; rw [if_pos hn], by simp only [VOp.run, rLoadn, this]⟩
          · cases hu
        · cases e
      · cases e
    case lookup ks zero ok =>
      simp only [opP, pLookup] at e
      split at e
      · next k =>
        obtain ⟨y, k', rfl, h, hk'⟩ := All₂.two ha
        obtain ⟨z, rfl, hz⟩ := h.s
        cases QRel.nilm' hz
        obtain ⟨k', rfl, hk'⟩ := hk'.cv
        refine ⟨?_, (quiet_run hk hu).2 s.h fun b h => by cases h⟩
        split at e
        · next z hz =>
          split at e
          · next hf => cases e; simp only [opP, pLookup, hz]; rw [if_pos hf]
          · cases e
        · cases e
      · next b k =>
        obtain ⟨y, k', rfl, h, hk'⟩ := All₂.two ha
        obtain ⟨z, rfl, b', hp, rfl⟩ := h.s
        obtain ⟨k', rfl, hk'⟩ := hk'.cv
        obtain ⟨x, x', b1, h1, h2, h3, y, y', h4, h5, h6, h7⟩ := sameRd_all hs he hrd
        have h8 := he.ple _ _ h3
        rw [hp] at h8; cases h8
        obtain ⟨body, own, frz, anc, log⟩ := x
        obtain ⟨body', own', frz', anc', log'⟩ := x'
        obtain ⟨yb, yo, ya⟩ := y
        obtain ⟨yb', yo', ya'⟩ := y'
        simp only at h6 h7
        subst h6; subst h7
        rw [h2] at e
        constructor
        · simp only [opP, pLookup, h1]
          split at e
          · next z hz =>
            split at e
            · next hf =>
              rw [if_pos hf]
              cases body' with
              | map l =>
                simp only at e ⊢
                split at e
                · cases e; rfl
                · cases e
              | cells _ => cases e
              | iter _ _ _ => cases e
            · cases e
          · cases e
        · simp only [VOp.run, rLookup, h5] at hu
          simp only [VOp.run, rLookup, h4]
          split at hu
          · next hf =>
            rw [if_pos hf]
            cases yb' with
            | map l =>
              simp only at hu ⊢
              split at hu
              · cases hu; rfl
              · cases hu
            | cells _ _ => cases hu
            | iter _ _ _ => cases hu
            | siter _ _ => cases hu
          · cases hu
      · cases e
    case lenm =>
      simp only [opP, pLenm] at e
      split at e
      · obtain ⟨y, rfl, h⟩ := All₂.one ha
        obtain ⟨z, rfl, hz⟩ := h.s
        cases QRel.nilm' hz
        cases e
        exact ⟨rfl, (quiet_run hk hu).2 s.h fun b h => by cases h⟩
      · next b =>
        obtain ⟨y, rfl, h⟩ := All₂.one ha
        obtain ⟨z, rfl, b', hp, rfl⟩ := h.s
        obtain ⟨x, x', b1, h1, h2, h3, y, y', h4, h5, h6, h7⟩ := sameRd_all hs he hrd
        have h8 := he.ple _ _ h3
        rw [hp] at h8; cases h8
        obtain ⟨body, own, frz, anc, log⟩ := x
        obtain ⟨body', own', frz', anc', log'⟩ := x'
        obtain ⟨yb, yo, ya⟩ := y
        obtain ⟨yb', yo', ya'⟩ := y'
        simp only at h6 h7
        subst h6; subst h7
        rw [h2] at e
        constructor
        · simp only [opP, pLenm, h1]
          cases body' with
          | map l => cases e; rfl
          | cells _ => cases e
          | iter _ _ _ => cases e
        · simp only [VOp.run, rLenm, h5] at hu
          simp only [VOp.run, rLenm, h4]
          cases yb' with
          | map l => cases hu; rfl
          | cells _ _ => cases hu
          | iter _ _ _ => cases hu
          | siter _ _ => cases hu
      · cases e
theorem rd_rel (hs : PSim s) {o : VOp} (hk : o.kind = .quiet) {args : List PA} {vs : List AV} {v : PA} {g' : PHeap} (ha : All₂ (AR s.Z s.p) args vs) (e : opP o args s.g = some (v, g')) {b : Key} (hb : rdBlk o vs = some b) :
    (∃ k r, rdP o args = some (k, r) ∧ s.p k = some b) ∨ (rdF o args = true ∧ s.Z b ≠ none) := by
  by_cases hbl : blindP o = true
  · rw [blind_rd hbl] at hb; cases hb
  · cases o <;> first | exact absurd rfl hbl | (simp [VOp.kind] at hk; done) | skip
    case load1 =>
      simp only [opP, pLoad1] at e
      split at e
      · next b o =>
        obtain ⟨y, rfl, h⟩ := All₂.one ha
        obtain ⟨z, rfl, b', hp, rfl⟩ := h.s
        cases hb
        exact .inl ⟨_, _, rfl, hp⟩
      · next x l =>
        obtain ⟨y, rfl, h⟩ := All₂.one ha
        obtain ⟨z, rfl, hz⟩ := h.s
        obtain ⟨b, o, f, rfl, h1, h2⟩ := QRel.rp' hz
        cases hb
        obtain ⟨c, m, h3, _⟩ := h1 (by simp)
        exact .inr ⟨rfl, by rw [h3]; simp⟩
      · cases e
    case loadn n =>
      simp only [opP, pLoadn] at e
      split at e
      · next b o =>
        obtain ⟨y, rfl, h⟩ := All₂.one ha
        obtain ⟨z, rfl, b', hp, rfl⟩ := h.s
        simp only [rdBlk] at hb
        split at hb
        · cases hb
        · next h0 => cases hb; exact .inl ⟨_, _, by simp only [rdP, h0, if_false]; rfl, hp⟩
      · next l =>
        obtain ⟨y, rfl, h⟩ := All₂.one ha
        obtain ⟨z, rfl, hz⟩ := h.s
        obtain ⟨b, o, f, rfl, h1, h2⟩ := QRel.rp' hz
        simp only [rdBlk] at hb
        split at hb
        · cases hb
        · next h0 =>
          cases hb
          split at e
          · next hn =>
            obtain ⟨c, m, h3, _⟩ := h1 (by omega)
            exact .inr ⟨rfl, by rw [h3]; simp⟩
          · cases e
      · cases e
    case lookup ks zero ok =>
      simp only [opP, pLookup] at e
      split at e
      · obtain ⟨y, k', rfl, h, hk'⟩ := All₂.two ha
        obtain ⟨z, rfl, hz⟩ := h.s
        cases QRel.nilm' hz
        cases hb
      · obtain ⟨y, k', rfl, h, hk'⟩ := All₂.two ha
        obtain ⟨z, rfl, b', hp, rfl⟩ := h.s
        cases hb
        exact .inl ⟨_, _, rfl, hp⟩
      · cases e
    case lenm =>
      simp only [opP, pLenm] at e
      split at e
      · obtain ⟨y, rfl, h⟩ := All₂.one ha
        obtain ⟨z, rfl, hz⟩ := h.s
        cases QRel.nilm' hz
        cases hb
      · obtain ⟨y, rfl, h⟩ := All₂.one ha
        obtain ⟨z, rfl, b', hp, rfl⟩ := h.s
        cases hb
        exact .inl ⟨_, _, rfl, hp⟩
      · cases e
end Go.Pv
end
section
namespace Go.Pv
open Go.Vm
open Go.Vm.Key (kn)
variable {F : Funcs} {pc : PCaller} {Z : ZM} {p : Ren}
def SnapRel (lo lov : Nat) (s : Sta) (fr : PFr) (fr1 : Fr) (a : PHeap × List Key) (b : Heap) : Prop :=
  ∃ Z p, PSim ⟨Z, p, a.1, b⟩ ∧ PExt lo lov ⟨Z, p, a.1, b⟩ s ∧ ∀ k v, k ∉ a.2 → fr.get k = some v → ∃ u, fr1.get k = some u ∧ AR Z p v u
structure DInv (lo hi : Key) (lov hiv : Key) (r rv : Key) (s : Sta) : Prop where
  good : Good s
  nx : s.g.next = hi ∨ hi.toNat ≤ s.g.next.toNat
  nxv : hiv.toNat ≤ s.h.next.toNat
  same : ∀ k b, s.p k = some b → ((lo.toNat ≤ k.toNat ∧ k.toNat < hi.toNat) ↔ (lov.toNat ≤ b.toNat ∧ b.toNat < hiv.toNat))
  made : ∀ b : Key, lov.toNat ≤ b.toNat → b.toNat < hiv.toNat → s.h.get b ≠ none → ∃ k, s.p k = some b
  freek : ∀ k : Key, r.toNat ≤ k.toNat → k.toNat < hi.toNat → s.p k = none
  freeb : ∀ b : Key, rv.toNat ≤ b.toNat → b.toNat < hiv.toNat → (∀ k, s.p k ≠ some b) ∧ s.Z b = none
  step : r.toNat + lov.toNat = rv.toNat + lo.toNat
  len : hi.toNat + lov.toNat = hiv.toNat + lo.toNat
  ge : lo.toNat ≤ r.toNat
theorem snaps_mono {lo lov : Nat} {s s' : Sta} {fr fr' : PFr} {fr1 fr1' : Fr} (he : ∀ Z p g h, PSim ⟨Z, p, g, h⟩ → PExt lo lov ⟨Z, p, g, h⟩ s → PExt lo lov ⟨Z, p, g, h⟩ s') {d : Option Key}
    (hfr : ∀ k, d ≠ some k → fr'.get k = fr.get k) (hfr1 : ∀ k, d ≠ some k → fr1'.get k = fr1.get k) {a : Snaps} {b : List Heap} (h : All₂ (SnapRel lo lov s fr fr1) a b) : All₂ (SnapRel lo lov s' fr' fr1') (wrote d a) b := by
  have one : ∀ x y, SnapRel lo lov s fr fr1 x y → SnapRel lo lov s' fr' fr1' (match d with | some k => (x.1, k :: x.2) | none => x) y := by
    rintro x y ⟨Z, p, h1, h2, h3⟩
    cases d with
    | none => exact ⟨Z, p, h1, he _ _ _ _ h1 h2, fun k v hk e => by rw [hfr k (by simp)] at e; rw [hfr1 k (by simp)]; exact h3 k v hk e⟩
    | some d =>
      refine ⟨Z, p, h1, he _ _ _ _ h1 h2, fun k v hk e => ?_⟩
      simp only [List.mem_cons, not_or] at hk
      rw [hfr k (by simp [Ne.symm hk.1])] at e
      rw [hfr1 k (by simp [Ne.symm hk.1])]
      exact h3 k v hk.2 e
  induction h with
  | nil => cases d <;> exact .nil
  | cons h _ ih =>
    cases d with
    | none => exact .cons (one _ _ h) ih
    | some d => exact .cons (one _ _ h) ih
theorem noFrz_spec {g : PHeap} : ∀ {n : Nat} {k : Key}, noFrz g k n = true → ∀ j : Key, k.toNat ≤ j.toNat → j.toNat < k.toNat + n → ∀ x, g.get j = some x → x.frz = false
  | 0, k, _, j, h1, h2 => by omega
  | n + 1, k, h, j, h1, h2 => by
    intro x hx
    simp only [noFrz, Bool.and_eq_true] at h
    by_cases e : k.toNat = j.toNat
    · have := Key.toNat_inj e
      subst this
      rw [hx] at h
      simpa using h.1
    · exact noFrz_spec h.2 j (by rw [Key.toNat_succ]; omega) (by rw [Key.toNat_succ]; omega) x hx
theorem kept_rel {ws : List Key} {fr : PFr} {fr1 : Fr} (h : ∀ k v, k ∉ ws → fr.get k = some v → ∃ u, fr1.get k = some u ∧ AR Z p v u) : ∀ {xs : List VX} {args : List PA} {vs : List AV}, keptArgs ws xs = true → fetchP fr xs = some args → fetch fr1 xs = some vs → All₂ (AR Z p) args vs
  | [], args, vs, _, e, e' => by cases e; cases e'; exact .nil
  | x :: xs, args, vs, hk, e, e' => by
    simp only [fetchP] at e
    simp only [fetch] at e'
    split at e
    · next v hv =>
      split at e
      · next ws' hws =>
        cases e
        split at e'
        · next u hu =>
          split at e'
          · next us hus =>
            cases e'
            cases x with
            | t k =>
              simp only [keptArgs, Bool.and_eq_true, Bool.not_eq_true', List.contains_eq_mem, decide_eq_false_iff_not] at hk
              obtain ⟨u', h1, h2⟩ := h k v hk.1 hv
              simp only [VX.eval] at hu
              rw [h1] at hu; cases hu
              exact .cons h2 (kept_rel h hk.2 hws hus)
            | c a =>
              simp only [keptArgs] at hk
              simp only [VX.eval, Option.some.injEq] at hu
              subst hu
              exact .cons (ofAV_rel hv) (kept_rel h hk hws hus)
          · cases e'
        · cases e'
      · cases e
    · cases e
theorem all₂_drop {α β : Type} {R : α → β → Prop} (n : Nat) {l : List α} {m : List β} (h : All₂ R l m) : All₂ R (l.drop n) (m.drop n) := forall₂_drop n h
theorem sv_beq_refl (v : AV) : AV.beq v v = true := by simp [AV.beq]
theorem same_sim {lo lov : Nat} {s : Sta} (hs : PSim s) {fr : PFr} {fr1 : Fr} {o : VOp} (hk : o.kind = .quiet) {xs : List VX} {args : List PA} {vs : List AV} (hfe : fetchP fr xs = some args) (hfe1 : fetch fr1 xs = some vs) (ha : All₂ (AR s.Z s.p) args vs)
    {v : PA} {u : AV} (e : opP o args s.g = some (v, s.g)) (hu : o.run vs s.h = some (u, s.h)) : ∀ {a : Snaps} {b : List Heap}, All₂ (SnapRel lo lov s fr fr1) a b → sameP xs (rdP o args) (rdF o args) s.g a = true → sameIn o vs u b = true
  | [], [], _, _ => rfl
  | (g, ws) :: a, h :: b, hab, hsame => by
    cases hab with
    | cons h1 h2 =>
    obtain ⟨Z, p, h3, h4, h5⟩ := h1
    simp only [sameP, Bool.and_eq_true, Bool.or_eq_true, Bool.not_eq_true'] at hsame
    obtain ⟨⟨hk1, hk2⟩, hk3⟩ := hsame
    have := (quiet_same h3 hs h4 hk ha e hu hk2 fun hf => by
      rcases hk1 with hk1 | hk1
      · rw [hf] at hk1; cases hk1
      · exact kept_rel h5 hk1 hfe hfe1).2
    simp only [sameIn, this, sv_beq_refl, Bool.true_and]
    exact same_sim hs hk hfe hfe1 ha e hu h2 hk3
  | [], _ :: _, hab, _ => by cases hab
  | _ :: _, [], hab, _ => by cases hab
theorem wroteQ_sim {lo lov : Nat} {s : Sta} (hs : PSim s) {fr : PFr} {fr1 : Fr} {o : VOp} (hk : o.kind = .quiet) {xs : List VX} {args : List PA} {vs : List AV} (hfe : fetchP fr xs = some args) (hfe1 : fetch fr1 xs = some vs) (ha : All₂ (AR s.Z s.p) args vs)
    {v : PA} {u : AV} (e : opP o args s.g = some (v, s.g)) (hu : o.run vs s.h = some (u, s.h)) (d : Option Key) : ∀ {a : Snaps} {b : List Heap}, All₂ (SnapRel lo lov s fr fr1) a b → All₂ (SnapRel lo lov s (putP fr d v) (putV fr1 d u)) (wroteQ d xs (rdP o args) s.g a) b
  | [], [], _ => .nil
  | (g, ws) :: a, h :: b, hab => by
    cases hab with
    | cons h1 h2 =>
    refine .cons ?_ (wroteQ_sim hs hk hfe hfe1 ha e hu d h2)
    obtain ⟨Z, p, h3, h4, h5⟩ := h1
    refine ⟨Z, p, h3, h4, ?_⟩
    cases d with
    | none => exact fun k w hk e => h5 k w hk e
    | some d =>
      intro k w hkw ew
      simp only [putP, Tr.get_upd] at ew
      simp only [putV, Tr.get_upd]
      simp only at hkw
      by_cases hd : d = k
      · subst hd
        simp only [if_true, Option.some.injEq] at ew ⊢
        subst ew
        split at hkw
        · next hc =>
          simp only [Bool.and_eq_true] at hc
          have hargs := kept_rel h5 hc.1 hfe hfe1
          obtain ⟨q1, q2⟩ := quiet_same h3 hs h4 hk ha e hu hc.2 fun _ => hargs
          obtain ⟨_, u', q3, q4⟩ := quiet_sim hk ⟨Z, p, g, h⟩ h3 args vs _ _ hargs q1
          simp only at q2 q3
          rw [q2] at q3; cases q3
          exact ⟨u, rfl, q4⟩
        · simp at hkw
      · simp only [hd, if_false] at ew ⊢
        refine h5 k w (fun hm => hkw ?_) ew
        split
        · exact hm
        · exact List.mem_cons_of_mem _ hm
  | [], _ :: _, hab => by cases hab
  | _ :: _, [], hab => by cases hab
theorem PSim.renext {Z : ZM} {p : Ren} {g g' : PHeap} {h h' : Heap} (e : g'.mem = g.mem) (e' : h'.mem = h.mem) (hs : PSim ⟨Z, p, g, h⟩) : PSim ⟨Z, p, g', h'⟩ := by
  have h1 : g'.get = g.get := by funext k; simp [PHeap.get, e]
  have h2 : h'.get = h.get := by funext k; simp [Heap.get, e']
  exact ⟨hs.inj, fun k x hx => by simp only [h1, h2] at hx ⊢; exact hs.blk k x hx, fun b c hc => by simp only [h2]; exact hs.z b c hc, fun k b hp hg => by simp only [h1, h2] at hg ⊢; exact hs.dead k b hp hg⟩
theorem PExt.renext {lo lov : Nat} {s : Sta} {Z : ZM} {p : Ren} {g g' : PHeap} {h h' : Heap} (e : g'.mem = g.mem) (e' : h'.mem = h.mem) (hn : s.g.next.toNat ≤ g'.next.toNat ∧ s.h.next.toNat ≤ h'.next.toNat) (hx : PExt lo lov s ⟨Z, p, g, h⟩) : PExt lo lov s ⟨Z, p, g', h'⟩ := by
  have h1 : g'.get = g.get := by funext k; simp [PHeap.get, e]
  have h2 : h'.get = h.get := by funext k; simp [Heap.get, e']
  exact ⟨hn, hx.zle, hx.ple, hx.newk, hx.newz, fun b hb hn => by simp only [h2]; exact hx.frame b hb hn, fun k b hp hg => by simp only [h1]; exact hx.gone k b hp hg,
    fun k x x' a b => by simp only [h1, h2] at b ⊢; exact hx.log k x x' a b⟩
theorem PExt.renext' {lo lov : Nat} {s' : Sta} {Z : ZM} {p : Ren} {g g' : PHeap} {h h' : Heap} (e : g'.mem = g.mem) (e' : h'.mem = h.mem) (hn : g'.next.toNat ≤ s'.g.next.toNat ∧ h'.next.toNat ≤ s'.h.next.toNat) (hx : PExt lo lov ⟨Z, p, g, h⟩ s') : PExt lo lov ⟨Z, p, g', h'⟩ s' := by
  have h1 : g'.get = g.get := by funext k; simp [PHeap.get, e]
  have h2 : h'.get = h.get := by funext k; simp [Heap.get, e']
  exact ⟨hn, hx.zle, hx.ple, hx.newk, hx.newz, fun b hb hn => by simp only [h2]; exact hx.frame b hb hn, fun k b hp hg => hx.gone k b hp (by simp only [h1] at hg; exact hg),
    fun k x x' a b => by simp only [h1, h2] at a ⊢; exact hx.log k x x' a b⟩
theorem alloc_oper {lo hi lov hiv r rv : Key} {s : Sta} (hd : DInv lo hi lov hiv r rv s) (hlt : r.toNat < hi.toNat) {o : VOper} (hk : o.act.kind = .alloc) {fr : PFr} {fr1 : Fr} (hf : FR s.Z s.p fr fr1) {fr' : PFr} {g' : PHeap} (e : operP pc o fr { s.g with next := r } = some (fr', g')) :
    ∃ v u h' p', (∀ N, o.run (callV F noO (exec F noO N)) fr1 { s.h with next := rv } = some (putV fr1 o.dst u, h')) ∧ fr' = putP fr o.dst v ∧ DInv lo hi lov hiv r.succ rv.succ ⟨s.Z, p', { g' with next := s.g.next }, { h' with next := s.h.next }⟩ ∧
      PExt lo.toNat lov.toNat s ⟨s.Z, p', { g' with next := s.g.next }, { h' with next := s.h.next }⟩ ∧ AR s.Z p' v u := by
  have hlv : rv.toNat < hiv.toNat := by have := hd.step; have := hd.len; omega
  have hgv : lov.toNat ≤ rv.toNat := by have := hd.step; have := hd.ge; omega
  unfold operP at e
  split at e
  · next hw =>
    split at e
    · next args ha =>
      split at e
      · next v g1 hr =>
        cases e
        obtain ⟨us, h1, h2⟩ := fetch_rel hf ha
        obtain ⟨dst, act, xs, gd⟩ := o
        simp only at hk hw ha hr
        cases act with
        | call f => simp [VAct.kind] at hk
        | callv => simp [VAct.kind] at hk
        | op a =>
          have hsr : PSim ⟨s.Z, s.p, { s.g with next := r }, { s.h with next := rv }⟩ := PSim.renext (g := s.g) (h := s.h) rfl rfl hd.good.toPSim
          have hfa : FreeAt ⟨s.Z, s.p, { s.g with next := r }, { s.h with next := rv }⟩ r rv := ⟨hd.freek r (Nat.le_refl _) hlt, (hd.freeb rv (Nat.le_refl _) hlv).2, (hd.freeb rv (Nat.le_refl _) hlv).1⟩
          simp only [actP] at hr
          obtain ⟨u, body, own, y, rfl, h3, h4, h5, h6⟩ := alloc_sim hk _ hsr hfa args us v _ h2 hr
          simp only at h3 h4 h6
          have hns := new_sim hsr hfa (anc := []) h4 fun ho => ⟨(h5 ho).1, by rw [(h5 ho).2]; exact .nil⟩
          have hne := new_ext hsr hfa (body := body) (own := own) (anc := []) (y := y)
          refine ⟨v, u, _, s.p.set r rv, fun N => by simp only [VOper.run, wanted_rel hf hw, h1, VAct.run, h3]; rfl, rfl, ?_, ?_, h6⟩
          · refine ⟨⟨PSim.renext (g := ({ s.g with next := r } : PHeap).newB body own []) (h := ({ s.h with next := rv } : Heap).newB y) rfl rfl hns, ⟨fun k b hkb => ?_, fun b c hc => ?_, fun b hb => ?_⟩⟩, hd.nx, hd.nxv, fun k b hkb => ?_, fun b hb1 hb2 hb3 => ?_, fun k hk1 hk2 => ?_, fun b hb1 hb2 => ?_, ?_, hd.len, ?_⟩
            · simp only at hkb ⊢
              by_cases e : r = k
              · subst e; rw [Ren.set_same] at hkb; cases hkb
                have := hd.nxv
                rcases hd.nx with h | h
                · rw [h]; omega
                · omega
              · rw [Ren.set_ne _ _ e] at hkb; exact hd.good.pk k b hkb
            · exact hd.good.zr b c hc
            · have hb : s.h.next.toNat ≤ b.toNat := hb
              have := hd.nxv
              have hne' : rv ≠ b := by rintro rfl; omega
              have h9 : (({ s.h with next := rv } : Heap).newB y).get b = s.h.get b := by rw [get_newB]; simp only [hne', if_false]; rfl
              exact h9.trans (hd.good.top b hb)
            · simp only at hkb
              by_cases e : r = k
              · subst e; rw [Ren.set_same] at hkb; cases hkb
                have := hd.ge
                exact ⟨fun _ => ⟨hgv, hlv⟩, fun _ => ⟨this, hlt⟩⟩
              · rw [Ren.set_ne _ _ e] at hkb; exact hd.same k b hkb
            · simp only at hb3 ⊢
              by_cases e : rv = b
              · subst e; exact ⟨r, Ren.set_same _ _ _⟩
              · have : s.h.get b ≠ none := by
                  intro h0
                  apply hb3
                  have : (({ s.h with next := rv } : Heap).newB y).get b = none := by rw [get_newB]; simp only [e, if_false]; exact h0
                  exact this
                obtain ⟨k, hkb⟩ := hd.made b hb1 hb2 this
                exact ⟨k, hfa.le k b hkb⟩
            · simp only
              rw [Key.toNat_succ] at hk1
              have hne' : r ≠ k := by rintro rfl; omega
              rw [Ren.set_ne _ _ hne']
              exact hd.freek k (by omega) hk2
            · rw [Key.toNat_succ] at hb1
              obtain ⟨h7, h8⟩ := hd.freeb b (by omega) hb2
              refine ⟨fun k hkb => ?_, h8⟩
              simp only at hkb
              by_cases e : r = k
              · subst e; rw [Ren.set_same] at hkb; cases hkb; omega
              · rw [Ren.set_ne _ _ e] at hkb; exact h7 k hkb
            · rw [Key.toNat_succ, Key.toNat_succ]; have := hd.step; omega
            · rw [Key.toNat_succ]; have := hd.ge; omega
          · have h7 : PExt lo.toNat lov.toNat ⟨s.Z, s.p, { s.g with next := r }, { s.h with next := rv }⟩ (Sta.new ⟨s.Z, s.p, { s.g with next := r }, { s.h with next := rv }⟩ body own [] y) :=
              (PExt.refl lo.toNat lov.toNat _).trans hsr hne (by simpa using hd.ge) (by simpa using hgv)
            have h8 := PExt.renext (s := ⟨s.Z, s.p, { s.g with next := r }, { s.h with next := rv }⟩) (Z := s.Z) (p := s.p.set r rv) (g := ({ s.g with next := r } : PHeap).newB body own []) (h := ({ s.h with next := rv } : Heap).newB y) (g' := { ({ s.g with next := r } : PHeap).newB body own [] with next := s.g.next }) (h' := { ({ s.h with next := rv } : Heap).newB y with next := s.h.next }) rfl rfl
              (by
                have h1 := hd.nxv
                have h2 : hi.toNat ≤ s.g.next.toNat := by
                  rcases hd.nx with h | h
                  · rw [h]; exact Nat.le_refl _
                  · exact h
                refine ⟨?_, ?_⟩
                · show r.toNat ≤ s.g.next.toNat
                  omega
                · show rv.toNat ≤ s.h.next.toNat
                  omega) h7
            exact PExt.renext' (g := { s.g with next := r }) (h := { s.h with next := rv }) rfl rfl ⟨Nat.le_refl _, Nat.le_refl _⟩ h8
      · cases e
    · cases e
  · next hw =>
    cases e
    refine ⟨.unit, .unit, { s.h with next := rv }, s.p, fun N => by simp only [VOper.run, wanted_rel hf hw], rfl, ?_, ?_, unit_rel⟩
    · refine ⟨⟨PSim.renext (g := s.g) (h := s.h) rfl rfl hd.good.toPSim, ⟨hd.good.pk, hd.good.zr, hd.good.top⟩⟩, hd.nx, hd.nxv, hd.same, hd.made, fun k h1 h2 => hd.freek k (by rw [Key.toNat_succ] at h1; omega) h2, fun b h1 h2 => hd.freeb b (by rw [Key.toNat_succ] at h1; omega) h2, ?_, hd.len, ?_⟩
      · rw [Key.toNat_succ, Key.toNat_succ]; have := hd.step; omega
      · rw [Key.toNat_succ]; have := hd.ge; omega
    · exact PExt.refl _ _ _
  · cases e
theorem nAlloc_cons (d : DOp) (l : List DOp) : nAlloc (d :: l) = (if d.o.act.kind = .alloc then 1 else 0) + nAlloc l := rfl
theorem drawn_sim (hc : CSim F pc) (lo hi lov hiv : Key) (n : Nat) (hn : lo.toNat + n = hi.toNat) : ∀ (l : List DOp) {r rv : Key} {s : Sta} {a : Snaps} {b : List Heap} {fr : PFr} {fr1 : Fr}, DInv lo hi lov hiv r rv s → r.toNat + nAlloc l ≤ hi.toNat → FR s.Z s.p fr fr1 → All₂ (SnapRel lo.toNat lov.toNat s fr fr1) a b →
    ∀ {fr' : PFr} {g' : PHeap}, drawnP pc lo hi n l r a fr s.g = some (fr', g') →
    ∃ N fr1' h' Z' p', runDrawn (callV F noO (exec F noO N)) lov hiv l rv b fr1 s.h = some (fr1', h') ∧ Good ⟨Z', p', g', h'⟩ ∧ PExt lo.toNat lov.toNat s ⟨Z', p', g', h'⟩ ∧ FR Z' p' fr' fr1'
  | [], r, rv, s, a, b, fr, fr1, hd, _, hf, _, fr', g', e => by cases e; exact ⟨0, fr1, s.h, s.Z, s.p, rfl, hd.good, PExt.refl _ _ _, hf⟩
  | d :: l, r, rv, s, a, b, fr, fr1, hd, hr, hf, hab, fr', g', e => by
    have hlh : lo.toNat ≤ hi.toNat := by omega
    simp only [drawnP] at e
    split at e
    · next hk =>
      split at e
      · next fr2 g2 ho =>
        obtain ⟨N, v, u, h2, Z2, p2, h3, rfl, h4, h5, h6⟩ := oper_sim hc hd.good hf ho
        have hnx := hd.nxv
        have hnx0 : hi.toNat ≤ s.g.next.toNat := by
          rcases hd.nx with h | h
          · rw [h]; exact Nat.le_refl _
          · exact h
        have hlv : lov.toNat ≤ hiv.toNat := by have := hd.len; omega
        have hd2 : DInv lo hi lov hiv r rv ⟨Z2, p2, g2, h2⟩ := by
          refine ⟨h4, .inr (Nat.le_trans hnx0 h5.nx.1), Nat.le_trans hnx h5.nx.2, fun k b hkb => ?_, fun b hb1 hb2 hb3 => ?_, fun k hk1 hk2 => ?_, fun b hb1 hb2 => ?_, hd.step, hd.len, hd.ge⟩
          · rcases h5.newk k b hkb with h | h
            · exact hd.same k b h
            · constructor
              · intro h'; omega
              · intro h'; omega
          · have := h5.frame b (by omega)
            by_cases hex : ∃ k, s.p k = some b
            · obtain ⟨k, hkb⟩ := hex; exact ⟨k, h5.ple k b hkb⟩
            · exfalso
              have hfr := this fun k hkb => hex ⟨k, hkb⟩
              simp only at hb3 hfr
              rw [hfr] at hb3
              exact hex (hd.made b hb1 hb2 hb3)
          · cases hkb : p2 k with
            | none => exact hkb
            | some b =>
              rcases h5.newk k b hkb with h | h
              · rw [hd.freek k hk1 hk2] at h; cases h
              · omega
          · obtain ⟨h7, h8⟩ := hd.freeb b hb1 hb2
            refine ⟨fun k hkb => ?_, ?_⟩
            · rcases h5.newk k b hkb with h | h
              · exact h7 k h
              · omega
            · cases hz : Z2 b with
              | none => exact hz
              | some c =>
                rcases h5.newz b c hz with h | ⟨k, h⟩ | h
                · exact absurd h8 h
                · exact absurd h (h7 k)
                · omega
        have hext : PExt lo.toNat lov.toNat s ⟨Z2, p2, g2, h2⟩ := (PExt.refl lo.toNat lov.toNat s).trans hd.good.toPSim h5 (by omega) (by omega)
        have hsn : All₂ (SnapRel lo.toNat lov.toNat s fr fr1) (a ++ [(s.g, [])]) (b ++ [s.h]) := forall₂_append hab (.cons ⟨s.Z, s.p, hd.good.toPSim, PExt.refl _ _ _, fun k v _ e => hf k v e⟩ .nil)
        have hsn2 : All₂ (SnapRel lo.toNat lov.toNat ⟨Z2, p2, g2, h2⟩ (putP fr d.o.dst v) (putV fr1 d.o.dst u)) (wrote d.o.dst (a ++ [(s.g, [])])) (b ++ [s.h]) :=
          snaps_mono (fun Z p g h hp he => he.trans hp hext (Nat.le_refl _) (Nat.le_refl _)) (fun k hk => by rw [putP_get, if_neg hk]) (fun k hk => by rw [putV_get', if_neg hk]) hsn
        rw [nAlloc_cons] at hr
        obtain ⟨N', fr3, h7, Z3, p3, h8, h9, h10, h11⟩ := drawn_sim hc lo hi lov hiv n hn l hd2 (by omega) ((hf.mono h5.zle h5.ple).put h6 d.o.dst) hsn2 e
        refine ⟨max N N', fr3, h7, Z3, p3, ?_, h9, hext.trans hd.good.toPSim h10 (Nat.le_refl _) (Nat.le_refl _), h11⟩
        simp only [runDrawn, hk, oper_mono (call_le (Nat.le_max_left N N')) h3]
        exact drawn_mono (call_le (Nat.le_max_right N N')) lov hiv l h8
      · cases e
    · next hk =>
      split at e
      · next fr2 g2 ho =>
        rw [nAlloc_cons, hk] at hr
        simp only [if_true] at hr
        obtain ⟨v, u, h2, p2, h3, rfl, h4, h5, h6⟩ := alloc_oper (F := F) hd (by omega) hk hf ho
        have hsn2 : All₂ (SnapRel lo.toNat lov.toNat ⟨s.Z, p2, { g2 with next := s.g.next }, { h2 with next := s.h.next }⟩ (putP fr d.o.dst v) (putV fr1 d.o.dst u)) (wrote d.o.dst a) b :=
          snaps_mono (fun Z p g h hp he => he.trans hp h5 (Nat.le_refl _) (Nat.le_refl _)) (fun k hk => by rw [putP_get, if_neg hk]) (fun k hk => by rw [putV_get', if_neg hk]) hab
        obtain ⟨N', fr3, h7, Z3, p3, h8, h9, h10, h11⟩ := drawn_sim hc lo hi lov hiv n hn l (s := ⟨s.Z, p2, { g2 with next := s.g.next }, { h2 with next := s.h.next }⟩) h4 (by rw [Key.toNat_succ]; omega) ((hf.mono h5.zle h5.ple).put h6 d.o.dst) hsn2 e
        refine ⟨N', fr3, h7, Z3, p3, ?_, h9, h5.trans hd.good.toPSim h10 (Nat.le_refl _) (Nat.le_refl _), h11⟩
        simp only [runDrawn, hk, h3]
        exact h8
      · cases e
    · next hk =>
      rw [nAlloc_cons, hk] at hr
      simp only [reduceCtorEq, if_false, Nat.zero_add] at hr
      split at e
      · next o hw hact =>
        split at e
        · next args hfe =>
          split at e
          · next v g2 hop =>
            split at e
            · next hcond =>
              obtain ⟨us, h1, h2⟩ := fetch_rel hf hfe
              have hko : o.kind = .quiet := by rw [hact] at hk; exact hk
              obtain ⟨rfl, u, h3, h4⟩ := quiet_sim hko s hd.good.toPSim args us v g2 h2 hop
              simp only [Bool.and_eq_true, Bool.or_eq_true, Bool.not_eq_true'] at hcond
              obtain ⟨⟨hc1, hc2⟩, hc3⟩ := hcond
              have hsame := same_sim hd.good.toPSim hko hfe h1 h2 hop h3 (forall₂_drop d.chk hab) hc3
              have hout : outside lov hiv o us = true := by
                unfold outside
                split
                · next bk hbk =>
                  simp only [Bool.or_eq_true, Nat.blt_eq, Nat.ble_eq]
                  rcases rd_rel hd.good.toPSim hko h2 hop hbk with ⟨k, rr, h5, h6⟩ | ⟨h5, h6⟩
                  · rw [h5] at hc1
                    simp only [outsideP, Bool.or_eq_true, Nat.blt_eq, Nat.ble_eq] at hc1
                    have := hd.same k bk h6
                    have hx : ¬ (lo.toNat ≤ k.toNat ∧ k.toNat < hi.toNat) := by omega
                    have hy : ¬ (lov.toNat ≤ bk.toNat ∧ bk.toNat < hiv.toNat) := fun h => hx (this.2 h)
                    omega
                  · rw [h5] at hc2
                    simp only [Bool.true_eq_false, false_or] at hc2
                    by_cases hin : lov.toNat ≤ bk.toNat ∧ bk.toNat < hiv.toNat
                    · exfalso
                      cases hz : s.Z bk with
                      | none => exact h6 hz
                      | some c =>
                        obtain ⟨y, hy, _⟩ := hd.good.z bk c hz
                        obtain ⟨k, hkb⟩ := hd.made bk hin.1 hin.2 (by rw [hy]; simp)
                        have hkr := (hd.same k bk hkb).2 hin
                        cases hg : s.g.get k with
                        | none => rw [hd.good.dead k bk hkb hg] at hy; cases hy
                        | some x =>
                          have hfz := noFrz_spec hc2 k hkr.1 (by omega) x hg
                          obtain ⟨b2, y2, e1, _, e3⟩ := hd.good.blk k x hg
                          rw [hkb] at e1; cases e1
                          rw [e3.thaw hfz] at hz; cases hz
                    · omega
                · rfl
              obtain ⟨N', fr3, h7, Z3, p3, h8, h9, h10, h11⟩ := drawn_sim hc lo hi lov hiv n hn l hd hr (hf.put h4 d.o.dst) (wroteQ_sim hd.good.toPSim hko hfe h1 h2 hop h3 d.o.dst hab) e
              refine ⟨N', fr3, h7, Z3, p3, ?_, h9, h10, h11⟩
              have hk2 : (VAct.op o).kind = Kind.quiet := hko
              simp only [runDrawn, wanted_rel hf hw, hact, hk2, h1, h3, hout, hsame, Bool.and_true, if_true]
              exact h8
            · cases e
          · cases e
        · cases e
      · next hw =>
        have hsn2 : All₂ (SnapRel lo.toNat lov.toNat s (putP fr d.o.dst .unit) (putV fr1 d.o.dst .unit)) a b := by
          refine forall₂_mono hab fun x y => ?_
          rintro ⟨Z, p, h3, h4, h5⟩
          refine ⟨Z, p, h3, h4, fun k w hkw ew => ?_⟩
          rw [putP_get] at ew
          rw [putV_get']
          split at ew
          · next hd => cases ew; rw [if_pos hd]; exact ⟨_, rfl, unit_rel⟩
          · next hd => rw [if_neg hd]; exact h5 k w hkw ew
        obtain ⟨N', fr3, h7, Z3, p3, h8, h9, h10, h11⟩ := drawn_sim hc lo hi lov hiv n hn l hd hr (hf.put unit_rel d.o.dst) hsn2 e
        refine ⟨N', fr3, h7, Z3, p3, ?_, h9, h10, h11⟩
        simp only [runDrawn, hk, wanted_rel hf hw]
        exact h8
      · cases e
end Go.Pv
end
section
namespace Go.Pv
open Go.Vm
open Go.Vm.Key (kn)
variable {F : Funcs} {K : Known}
def AloneOk (F : Funcs) (f : Nat) (xs : List PA) (r : PA) : Prop := ∀ s : Sta, Good s → ∀ vs : List AV, All₂ (QA s.Z) xs vs →
  ∃ N u h' Z', callV F noO (exec F noO N) f vs s.h = some (u, h') ∧ Good ⟨Z', s.p, s.g, h'⟩ ∧ PExt s.g.next.toNat s.h.next.toNat s ⟨Z', s.p, s.g, h'⟩ ∧ QA Z' r u
def KnownOk (F : Funcs) (K : Known) : Prop := ∀ f xs r, K.pure f = true → K.ans f xs = some r → AloneOk F f xs r
abbrev PEx := VCode → PFr → PHeap → Option (VExit × PFr × PHeap)
def XSim (F : Funcs) (px : PEx) : Prop := ∀ (c : VCode) (s : Sta) (fr : PFr) (fr1 : Fr), Good s → FR s.Z s.p fr fr1 → ∀ (x : VExit) (fr' : PFr) (g' : PHeap), px c fr s.g = some (x, fr', g') →
  ∃ N fr1' h' Z' p', exec F noO N c fr1 s.h = some (x, fr1', h') ∧ Good ⟨Z', p', g', h'⟩ ∧ PExt s.g.next.toNat s.h.next.toNat s ⟨Z', p', g', h'⟩ ∧ FR Z' p' fr' fr1'
theorem entry_FR {Z : ZM} {p : Ren} {xs : List PA} {vs : List AV} (h : All₂ (AR Z p) xs vs) : FR Z p (Tr.z.putFrom 0 xs) (Tr.z.putFrom 0 vs) := by
  intro k v e
  rw [← Key.kn_toNat k, Tr.get_putFrom] at e
  rw [← Key.kn_toNat k, Tr.get_putFrom, ← forall₂_len h]
  split at e
  · next hk =>
    rw [if_pos hk]
    obtain ⟨u, h1, h2⟩ := forall₂_get h _ e
    exact ⟨u, h1, h2⟩
  · simp at e
theorem result_sim {s : Sta} (hs : PSim s) {fr : PFr} {fr1 : Fr} (hf : FR s.Z s.p fr fr1) {r : VRes} {x : PC} (e : resultP fr s.g r = some x) : ∃ u, resultV fr1 s.h r = some u ∧ CR s.Z s.p x u := by
  unfold resultP at e
  split at e
  · split at e
    · next k y hy =>
      cases e
      obtain ⟨u, h1, h2⟩ := hf _ _ hy
      obtain ⟨z, rfl, hz⟩ := h2.cv
      exact ⟨z, by simp only [resultV, h1], hz⟩
    · cases e
  · split at e
    · next k b o hb =>
      obtain ⟨u, h1, h2⟩ := hf _ _ hb
      obtain ⟨z, rfl, b', hp, rfl⟩ := h2.s
      split at e
      · next y hy =>
        cases e
        obtain ⟨l', h3, h4⟩ := read_sim hs hp hy
        obtain ⟨w, rfl, h5⟩ := All₂.one h4
        exact ⟨.s w, by simp only [resultV, h1, h3], h5⟩
      · cases e
    · cases e
  · split at e
    · next k b o hb =>
      obtain ⟨u, h1, h2⟩ := hf _ _ hb
      obtain ⟨z, rfl, b', hp, rfl⟩ := h2.s
      split at e
      · next y hy =>
        cases e
        obtain ⟨l', h3, h4⟩ := read_sim hs hp hy
        exact ⟨.agg l', by simp only [resultV, h1, h3], h4⟩
      · cases e
    · cases e
theorem results_sim {s : Sta} (hs : PSim s) {fr : PFr} {fr1 : Fr} (hf : FR s.Z s.p fr fr1) : ∀ {l : List VRes} {xs : List PC}, resultsP fr s.g l = some xs → ∃ us, resultsV fr1 s.h l = some us ∧ All₂ (CR s.Z s.p) xs us
  | [], xs, e => by cases e; exact ⟨[], rfl, .nil⟩
  | r :: l, xs, e => by
    simp only [resultsP] at e
    split at e
    · next x hx =>
      split at e
      · next ys hys =>
        cases e
        obtain ⟨u, h1, h2⟩ := result_sim hs hf hx
        obtain ⟨us, h3, h4⟩ := results_sim hs hf hys
        exact ⟨u :: us, by simp only [resultsV, h1, h3], .cons h2 h4⟩
      · cases e
    · cases e
theorem oneOrTup_rel {Z : ZM} {p : Ren} {xs : List PC} {us : List CV} (h : All₂ (CR Z p) xs us) : AR Z p (oneOrTupP xs) (oneOrTup us) := by
  cases h with
  | nil => exact All₂.nil
  | cons h1 h2 => cases h2 with
    | nil => exact h1
    | cons h3 h4 => exact .cons h1 (.cons h3 h4)
theorem body_sim {px : PEx} (hx : XSim F px) : CSim F (bodyP F px) := by
  intro f s hs args vs v g' ha e
  unfold bodyP at e
  split at e
  · next vf hvf =>
    have main : ∀ x fr g1, px vf.body (Tr.z.putFrom 0 args) s.g = some (x, fr, g1) → (∀ i, x ≠ .exit i) → (match resultsP fr g1 vf.results with | some l => some (oneOrTupP l, g1) | none => none) = some (v, g') →
        ∃ N u h' Z' p', callV F noO (exec F noO N) f vs s.h = some (u, h') ∧ Good ⟨Z', p', g', h'⟩ ∧ PExt s.g.next.toNat s.h.next.toNat s ⟨Z', p', g', h'⟩ ∧ AR Z' p' v u := by
      intro x fr g1 h1 h2 h3
      obtain ⟨N, fr1', h', Z', p', h4, h5, h6, h7⟩ := hx vf.body s _ _ hs (entry_FR ha) x fr g1 h1
      split at h3
      · next l hl =>
        cases h3
        obtain ⟨us, h8, h9⟩ := results_sim h5.toPSim h7 hl
        refine ⟨N, oneOrTup us, h', Z', p', ?_, h5, h6, oneOrTup_rel h9⟩
        simp only [callV, hvf, h4]
        cases x with
        | exit i => exact absurd rfl (h2 i)
        | normal => simp only [h8]
        | ret => simp only [h8]
      · cases h3
    split at e
    · cases e
    · next x fr g1 hne hr => exact main x fr g1 hr (fun i hi => hne i hi) e
    · cases e
  · cases e
theorem alone_good {s : Sta} (hs : Good s) : Good ⟨s.Z, fun _ => none, .empty, s.h⟩ where
  inj _ _ _ h := by cases h
  blk k x h := by simp [PHeap.get, PHeap.empty] at h
  z := hs.z
  dead _ _ h := by cases h
  pk _ _ h := by cases h
  zr := hs.zr
  top := hs.top
theorem alone_back {s : Sta} (hs : Good s) {Z' : ZM} {p' : Ren} {g' : PHeap} {h' : Heap} (hg : Good ⟨Z', p', g', h'⟩) (he : PExt 0 s.h.next.toNat ⟨s.Z, fun _ => none, .empty, s.h⟩ ⟨Z', p', g', h'⟩) : Good ⟨Z', s.p, s.g, h'⟩ ∧ PExt s.g.next.toNat s.h.next.toNat s ⟨Z', s.p, s.g, h'⟩ := by
  have hsame : ∀ b : Key, b.toNat < s.h.next.toNat → h'.get b = s.h.get b := fun b hb => he.frame b hb fun k h => by cases h
  have hzn : ∀ b : Key, b.toNat < s.h.next.toNat → s.Z b = none → Z' b = none := by
    intro b hb hz
    cases h : Z' b with
    | none => rfl
    | some c =>
      rcases he.newz b c h with h1 | ⟨k, h1⟩ | h1
      · exact absurd hz h1
      · cases h1
      · omega
  have hzle : ZLe s.Z Z' := he.zle
  have hnx := he.nx.2
  simp only at hnx
  refine ⟨⟨⟨hs.inj, fun k x hx => ?_, hg.z, fun k b hp hk => ?_⟩, ⟨fun k b hp => ?_, hg.zr, hg.top⟩⟩, ⟨⟨Nat.le_refl _, hnx⟩, hzle, fun _ _ h => h, fun _ _ h => .inl h, fun b c h => ?_, fun b hb _ => hsame b hb, fun _ _ _ h => h, fun k x x' h1 h2 => ?_⟩⟩
  · obtain ⟨b, y, h1, h2, h3⟩ := hs.blk k x hx
    have hlt := (hs.pk k b h1).2
    refine ⟨b, y, h1, by rw [← h2]; exact hsame b hlt, h3.body.mono hzle (fun _ _ h => h), h3.own, fun h => hzn b hlt (h3.thaw h), fun h => hzle _ _ (h3.frz h)⟩
  · have hlt := (hs.pk k b hp).2
    show h'.get b = none
    rw [hsame b hlt]; exact hs.dead k b hp hk
  · have := hs.pk k b hp
    exact ⟨this.1, Nat.lt_of_lt_of_le this.2 hnx⟩
  · rcases he.newz b c h with h1 | ⟨k, h1⟩ | h1
    · exact .inl h1
    · cases h1
    · exact .inr (.inr h1)
  · simp only at h2
    rw [h1] at h2; cases h2
    refine ⟨[], rfl, fun b y hp hy => ⟨y, ?_, Keep.refl _ _⟩⟩
    have hlt := (hs.pk k b hp).2
    show h'.get b = some y
    rw [hsame b hlt]; exact hy
theorem alone_ok {px : PEx} (hx : XSim F px) {f : Nat} {xs : List PA} {r : PA} (e : aloneP F px f xs = some r) : AloneOk F f xs r := by
  intro s hs vs hv
  unfold aloneP at e
  split at e
  · next r0 g0 hb =>
    split at e
    · next r1 g1 hfz =>
      cases e
      obtain ⟨N, u, h', Z', p', h1, h2, h3, h4⟩ := body_sim hx f ⟨s.Z, fun _ => none, .empty, s.h⟩ (alone_good hs) xs vs r0 g0 (forall₂_mono hv fun _ _ h => h.a) hb
      obtain ⟨Z2, h5, h6⟩ := frzA_ok h2.toPSim h4 hfz
      have hg : Good ⟨Z2, p', g1, h'⟩ := ⟨h5.sim, h5.room h2.toRoom⟩
      have he := PExt.trans (lo := 0) (lov := s.h.next.toNat) (alone_good hs).toPSim h3 (h5.ext 0 h'.next.toNat) (Nat.le_refl _) h3.nx.2
      obtain ⟨h7, h8⟩ := alone_back hs hg he
      exact ⟨N, u, h', Z2, h1, h7, h8, h6⟩
    · cases e
  · cases e
theorem call_sim {px : PEx} (hx : XSim F px) (hK : KnownOk F K) : CSim F (callP F K px) := by
  intro f s hs args vs v g' ha e
  unfold callP at e
  split at e
  · next hpf =>
    split at e
    · next xs g1 hfz =>
      obtain ⟨Z1, h1, h2⟩ := frzAs_ok args hs.toPSim ha hfz
      have hg : Good ⟨Z1, s.p, g1, s.h⟩ := ⟨h1.sim, h1.room hs.toRoom⟩
      have main : ∀ r, AloneOk F f xs r → v = r → g' = g1 → ∃ N u h' Z' p', callV F noO (exec F noO N) f vs s.h = some (u, h') ∧ Good ⟨Z', p', g', h'⟩ ∧ PExt s.g.next.toNat s.h.next.toNat s ⟨Z', p', g', h'⟩ ∧ AR Z' p' v u := by
        rintro r hr rfl rfl
        obtain ⟨N, u, h', Z', h3, h4, h5, h6⟩ := hr _ hg vs h2
        have hext := h1.ext s.g.next.toNat s.h.next.toNat
        exact ⟨N, u, h', Z', s.p, h3, h4, hext.trans hs.toPSim h5 hext.nx.1 (Nat.le_refl _), h6.a⟩
      split at e
      · next r hr => cases e; exact main _ (hK f xs _ hpf hr) rfl rfl
      · split at e
        · next r hr => cases e; exact main _ (alone_ok hx hr) rfl rfl
        · cases e
    · cases e
  · exact body_sim hx f s hs args vs v g' ha e
section
variable {n : Nat} {fr : PFr} {h : PHeap}
theorem exP_region (ops : List VOper) : execP F K (n + 1) (.region ops) fr h = match opsP (callP F K (execP F K n)) ops fr h with
      | some (fr, h) => some (.normal, fr, h)
      | none => none := rfl
theorem exP_drawn (ops : List DOp) : execP F K (n + 1) (.drawn ops) fr h = match drawnP (callP F K (execP F K n)) h.next (succs h.next (nAlloc ops)) (nAlloc ops) ops h.next [] fr { h with next := succs h.next (nAlloc ops) } with
      | some (fr, h) => some (.normal, fr, h)
      | none => none := rfl
theorem exP_seq (a b : VCode) : execP F K (n + 1) (.seq a b) fr h = match execP F K n a fr h with
      | some (.normal, fr, h) => execP F K n b fr h
      | r => r := rfl
theorem exP_cond (x : VX) (a b : VCode) : execP F K (n + 1) (.cond x a b) fr h = match evalP fr x with
      | some (.v (.s (.bool true))) => execP F K n a fr h
      | some (.v (.s (.bool false))) => execP F K n b fr h
      | _ => none := rfl
theorem exP_block (id : Nat) (a : VCode) : execP F K (n + 1) (.block id a) fr h = match execP F K n a fr h with
      | some (.exit j, fr, h) => if j = id then some (.normal, fr, h) else some (.exit j, fr, h)
      | r => r := rfl
theorem exP_loop (a : VCode) : execP F K (n + 1) (.loop a) fr h = match execP F K n a fr h with
      | some (.normal, fr, h) => execP F K n (.loop a) fr h
      | r => r := rfl
end
theorem region_sim {pc : PCaller} (hc : CSim F pc) (ops : List DOp) {s : Sta} (hs : Good s) {fr : PFr} {fr1 : Fr} (hf : FR s.Z s.p fr fr1) {fr' : PFr} {g' : PHeap}
    (e : drawnP pc s.g.next (succs s.g.next (nAlloc ops)) (nAlloc ops) ops s.g.next [] fr { s.g with next := succs s.g.next (nAlloc ops) } = some (fr', g')) :
    ∃ N fr1' h' Z' p', runDrawn (callV F noO (exec F noO N)) s.h.next (succs s.h.next (nAlloc ops)) ops s.h.next [] fr1 { s.h with next := succs s.h.next (nAlloc ops) } = some (fr1', h') ∧ Good ⟨Z', p', g', h'⟩ ∧
      PExt s.g.next.toNat s.h.next.toNat s ⟨Z', p', g', h'⟩ ∧ FR Z' p' fr' fr1' := by
  have e1 := succs_toNat (nAlloc ops) s.g.next
  have e2 := succs_toNat (nAlloc ops) s.h.next
  have hd : DInv s.g.next (succs s.g.next (nAlloc ops)) s.h.next (succs s.h.next (nAlloc ops)) s.g.next s.h.next ⟨s.Z, s.p, { s.g with next := succs s.g.next (nAlloc ops) }, { s.h with next := succs s.h.next (nAlloc ops) }⟩ := by
    refine ⟨⟨PSim.renext (g := s.g) (h := s.h) rfl rfl hs.toPSim, ⟨fun k b h => ?_, fun b c h => ?_, fun b h => ?_⟩⟩, .inl rfl, Nat.le_refl _, fun k b h => ?_, fun b h1 _ h3 => ?_, fun k h1 _ => ?_, fun b h1 _ => ⟨fun k h => ?_, ?_⟩, by omega, by omega, Nat.le_refl _⟩
    · have := hs.pk k b h
      simp only; omega
    · have := hs.zr b c h
      simp only; omega
    · simp only at h
      exact hs.top b (by omega)
    · have := hs.pk k b h
      omega
    · exact absurd (hs.top b h1) h3
    · cases h : s.p k with
      | none => rfl
      | some b => have := hs.pk k b h; omega
    · have := hs.pk k b h; omega
    · cases h : s.Z b with
      | none => rfl
      | some c => have := hs.zr b c h; omega
  obtain ⟨N, fr1', h', Z', p', h1, h2, h3, h4⟩ := drawn_sim hc s.g.next (succs s.g.next (nAlloc ops)) s.h.next (succs s.h.next (nAlloc ops)) (nAlloc ops) e1.symm ops (r := s.g.next) (rv := s.h.next) hd (by omega) hf .nil e
  refine ⟨N, fr1', h', Z', p', h1, h2, ?_, h4⟩
  refine PExt.renext' (g := { s.g with next := succs s.g.next (nAlloc ops) }) (h := { s.h with next := succs s.h.next (nAlloc ops) }) (g' := s.g) (h' := s.h) rfl rfl ⟨?_, ?_⟩ h3
  · have := h3.nx.1; simp only at this ⊢; omega
  · have := h3.nx.2; simp only at this ⊢; omega
theorem exec_sim (hK : KnownOk F K) : ∀ n, XSim F (execP F K n)
  | 0 => by intro c s fr fr1 _ _ x fr' g' e; cases e
  | n + 1 => by
    have ih := exec_sim hK n
    have hc := call_sim ih hK
    intro c s fr fr1 hs hf x fr' g' e
    cases c with
    | skip => cases e; exact ⟨1, fr1, s.h, s.Z, s.p, rfl, hs, PExt.refl _ _ _, hf⟩
    | region ops =>
      rw [exP_region] at e
      split at e
      · next fr2 g2 ho =>
        cases e
        obtain ⟨N, fr1', h', Z', p', h1, h2⟩ := ops_sim hc ops hs hf ho
        exact ⟨N + 1, fr1', h', Z', p', by rw [ex_region, h1], h2⟩
      · cases e
    | drawn ops =>
      rw [exP_drawn] at e
      split at e
      · next fr2 g2 ho =>
        cases e
        obtain ⟨N, fr1', h', Z', p', h1, h2⟩ := region_sim hc ops hs hf ho
        exact ⟨N + 1, fr1', h', Z', p', by rw [ex_drawn, h1], h2⟩
      · cases e
    | seq a b =>
      rw [exP_seq] at e
      cases hr : execP F K n a fr s.g with
      | none => rw [hr] at e; cases e
      | some q =>
        obtain ⟨x1, fr2, g2⟩ := q
        rw [hr] at e
        obtain ⟨N, fr1', h', Z', p', h1, h2, h3, h4⟩ := ih a s fr fr1 hs hf x1 fr2 g2 hr
        cases x1 with
        | normal =>
          obtain ⟨N', fr2', h'', Z'', p'', h5, h6, h7, h8⟩ := ih b ⟨Z', p', g2, h'⟩ fr2 fr1' h2 h4 x fr' g' e
          refine ⟨max N N' + 1, fr2', h'', Z'', p'', ?_, h6, h3.trans hs.toPSim h7 h3.nx.1 h3.nx.2, h8⟩
          rw [ex_seq, exec_le (Nat.le_max_left N N') _ _ _ _ h1]
          exact exec_le (Nat.le_max_right N N') _ _ _ _ h5
        | exit id => cases e; exact ⟨N + 1, fr1', h', Z', p', by rw [ex_seq, h1], h2, h3, h4⟩
        | ret => cases e; exact ⟨N + 1, fr1', h', Z', p', by rw [ex_seq, h1], h2, h3, h4⟩
    | cond y a b =>
      rw [exP_cond] at e
      split at e
      · next hy =>
        obtain ⟨u, h0, hu⟩ := eval_rel hf hy
        obtain ⟨z, rfl, hz⟩ := hu.s
        cases QRel.bool' hz
        obtain ⟨N, fr1', h', Z', p', h1, h2⟩ := ih a s fr fr1 hs hf x fr' g' e
        exact ⟨N + 1, fr1', h', Z', p', by rw [ex_cond, h0]; exact h1, h2⟩
      · next hy =>
        obtain ⟨u, h0, hu⟩ := eval_rel hf hy
        obtain ⟨z, rfl, hz⟩ := hu.s
        cases QRel.bool' hz
        obtain ⟨N, fr1', h', Z', p', h1, h2⟩ := ih b s fr fr1 hs hf x fr' g' e
        exact ⟨N + 1, fr1', h', Z', p', by rw [ex_cond, h0]; exact h1, h2⟩
      · cases e
    | block id a =>
      rw [exP_block] at e
      cases hr : execP F K n a fr s.g with
      | none => rw [hr] at e; cases e
      | some q =>
        obtain ⟨x1, fr2, g2⟩ := q
        rw [hr] at e
        obtain ⟨N, fr1', h', Z', p', h1, h2, h3, h4⟩ := ih a s fr fr1 hs hf x1 fr2 g2 hr
        cases x1 with
        | normal => cases e; exact ⟨N + 1, fr1', h', Z', p', by rw [ex_block, h1], h2, h3, h4⟩
        | exit j =>
          simp only at e
          split at e
          · next hj => cases e; exact ⟨N + 1, fr1', h', Z', p', by rw [ex_block, h1]; simp only [hj, if_true], h2, h3, h4⟩
          · next hj => cases e; exact ⟨N + 1, fr1', h', Z', p', by rw [ex_block, h1]; simp only [hj, if_false], h2, h3, h4⟩
        | ret => cases e; exact ⟨N + 1, fr1', h', Z', p', by rw [ex_block, h1], h2, h3, h4⟩
    | loop a =>
      rw [exP_loop] at e
      cases hr : execP F K n a fr s.g with
      | none => rw [hr] at e; cases e
      | some q =>
        obtain ⟨x1, fr2, g2⟩ := q
        rw [hr] at e
        obtain ⟨N, fr1', h', Z', p', h1, h2, h3, h4⟩ := ih a s fr fr1 hs hf x1 fr2 g2 hr
        cases x1 with
        | normal =>
          obtain ⟨N', fr2', h'', Z'', p'', h5, h6, h7, h8⟩ := ih (.loop a) ⟨Z', p', g2, h'⟩ fr2 fr1' h2 h4 x fr' g' e
          refine ⟨max N N' + 1, fr2', h'', Z'', p'', ?_, h6, h3.trans hs.toPSim h7 h3.nx.1 h3.nx.2, h8⟩
          rw [ex_loop, exec_le (Nat.le_max_left N N') _ _ _ _ h1]
          exact exec_le (Nat.le_max_right N N') _ _ _ _ h5
        | exit id => cases e; exact ⟨N + 1, fr1', h', Z', p', by rw [ex_loop, h1], h2, h3, h4⟩
        | ret => cases e; exact ⟨N + 1, fr1', h', Z', p', by rw [ex_loop, h1], h2, h3, h4⟩
    | exit id => cases e; exact ⟨1, fr1, s.h, s.Z, s.p, rfl, hs, PExt.refl _ _ _, hf⟩
    | ret => cases e; exact ⟨1, fr1, s.h, s.Z, s.p, rfl, hs, PExt.refl _ _ _, hf⟩
theorem run_ok (hK : KnownOk F K) {n f : Nat} {xs : List PA} {r : PA} (e : runP F K n f xs = some r) : AloneOk F f xs r := alone_ok (exec_sim hK n) e
end Go.Pv
end

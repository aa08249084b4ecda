/- A part of the proof that the law CountTower answers true. No condition. -/
import GoSem.Dispatch
import Derived.Orders
set_option linter.unusedVariables false
set_option linter.unusedSimpArgs false
set_option linter.unusedSectionVars false
section
namespace Go.Vm
inductive Key where
  | h | o (k : Key) | i (k : Key)
  deriving DecidableEq, Inhabited, Repr
namespace Key
def succ : Key → Key
  | .h => .o .h
  | .o k => .i k
  | .i k => .o k.succ
def toNat : Key → Nat
  | .h => 0
  | .o k => 2 * k.toNat + 1
  | .i k => 2 * k.toNat + 2
def kn : Nat → Key
  | 0 => .h
  | n + 1 => (kn n).succ
theorem toNat_succ : ∀ k : Key, k.succ.toNat = k.toNat + 1
  | .h => rfl
  | .o _ => rfl
  | .i k => by simp [succ, toNat, toNat_succ k]; omega
theorem toNat_kn : ∀ n, (kn n).toNat = n
  | 0 => rfl
  | n + 1 => by simp [kn, toNat_succ, toNat_kn n]
theorem toNat_inj : ∀ {a b : Key}, a.toNat = b.toNat → a = b
  | .h, .h, _ => rfl
  | .h, .o _, e => by simp [toNat] at e
  | .h, .i _, e => by simp [toNat] at e
  | .o _, .h, e => by simp [toNat] at e
  | .o a, .o b, e => by have := toNat_inj (a := a) (b := b) (by simp [toNat] at e; omega); rw [this]
  | .o _, .i _, e => by simp [toNat] at e; omega
  | .i _, .h, e => by simp [toNat] at e
  | .i _, .o _, e => by simp [toNat] at e; omega
  | .i a, .i b, e => by have := toNat_inj (a := a) (b := b) (by simp [toNat] at e; omega); rw [this]
theorem kn_toNat (k : Key) : kn k.toNat = k := toNat_inj (toNat_kn _)
theorem kn_inj {a b : Nat} (e : kn a = kn b) : a = b := by rw [← toNat_kn a, ← toNat_kn b, e]
theorem kn_odd : ∀ n, kn (2 * n + 1) = .o (kn n) := fun n => toNat_inj (by simp [toNat_kn, toNat])
theorem kn_even : ∀ n, kn (2 * n + 2) = .i (kn n) := fun n => toNat_inj (by simp [toNat_kn, toNat])
end Key
open Key (kn)
inductive Tr (α : Type) where
  | z | n (l : Tr α) (v : Option α) (r : Tr α)
  deriving Inhabited, Repr
namespace Tr
variable {α : Type}
def get : Tr α → Key → Option α
  | .z, _ => none
  | .n _ v _, .h => v
  | .n l _ _, .o k => l.get k
  | .n _ _ r, .i k => r.get k
def sing (v : Option α) : Key → Tr α
  | .h => .n .z v .z
  | .o k => .n (sing v k) none .z
  | .i k => .n .z none (sing v k)
def upd : Tr α → Key → Option α → Tr α
  | .z, k, v => sing v k
  | .n l _ r, .h, v => .n l v r
  | .n l x r, .o k, v => .n (l.upd k v) x r
  | .n l x r, .i k, v => .n l x (r.upd k v)
@[simp] theorem get_z (k : Key) : (Tr.z : Tr α).get k = none := by cases k <;> rfl
theorem get_sing_same (v : Option α) : ∀ k, (sing v k).get k = v
  | .h => rfl
  | .o k => get_sing_same v k
  | .i k => get_sing_same v k
theorem get_sing_ne (v : Option α) : ∀ {k j : Key}, k ≠ j → (sing v k).get j = none
  | .h, .h, e => absurd rfl e
  | .h, .o _, _ => by simp [sing, get]
  | .h, .i _, _ => by simp [sing, get]
  | .o _, .h, _ => rfl
  | .o k, .o j, e => get_sing_ne v (k := k) (j := j) (fun x => e (by rw [x]))
  | .o _, .i _, _ => by simp [sing, get]
  | .i _, .h, _ => rfl
  | .i _, .o _, _ => by simp [sing, get]
  | .i k, .i j, e => get_sing_ne v (k := k) (j := j) (fun x => e (by rw [x]))
theorem get_upd_same (v : Option α) : ∀ (t : Tr α) (k : Key), (t.upd k v).get k = v
  | .z, k => get_sing_same v k
  | .n _ _ _, .h => rfl
  | .n l _ _, .o k => get_upd_same v l k
  | .n _ _ r, .i k => get_upd_same v r k
theorem get_upd_ne (v : Option α) : ∀ (t : Tr α) {k j : Key}, k ≠ j → (t.upd k v).get j = t.get j
  | .z, k, j, e => by rw [upd, get_sing_ne v e, get_z]
  | .n _ _ _, .h, .h, e => absurd rfl e
  | .n _ _ _, .h, .o _, _ => rfl
  | .n _ _ _, .h, .i _, _ => rfl
  | .n _ _ _, .o _, .h, _ => rfl
  | .n l _ _, .o k, .o j, e => get_upd_ne v l (fun x => e (by rw [x]))
  | .n _ _ _, .o _, .i _, _ => rfl
  | .n _ _ _, .i _, .h, _ => rfl
  | .n _ _ _, .i _, .o _, _ => rfl
  | .n _ _ r, .i k, .i j, e => get_upd_ne v r (fun x => e (by rw [x]))
theorem get_upd (v : Option α) (t : Tr α) (k j : Key) : (t.upd k v).get j = if k = j then v else t.get j := by
  split
  · next e => subst e; exact get_upd_same v t k
  · next e => exact get_upd_ne v t e
theorem sing_upd_comm (v u : Option α) : ∀ {k j : Key}, k ≠ j → (sing v k).upd j u = (sing u j).upd k v
  | .h, .h, e => absurd rfl e
  | .h, .o _, _ => rfl
  | .h, .i _, _ => rfl
  | .o _, .h, _ => rfl
  | .o k, .o j, e => by simp only [sing, upd]; rw [sing_upd_comm v u (k := k) (j := j) (fun x => e (by rw [x]))]
  | .o _, .i _, _ => rfl
  | .i _, .h, _ => rfl
  | .i _, .o _, _ => rfl
  | .i k, .i j, e => by simp only [sing, upd]; rw [sing_upd_comm v u (k := k) (j := j) (fun x => e (by rw [x]))]
theorem upd_comm (v u : Option α) : ∀ (t : Tr α) {k j : Key}, k ≠ j → (t.upd k v).upd j u = (t.upd j u).upd k v
  | .z, k, j, e => sing_upd_comm v u e
  | .n _ _ _, .h, .h, e => absurd rfl e
  | .n _ _ _, .h, .o _, _ => rfl
  | .n _ _ _, .h, .i _, _ => rfl
  | .n _ _ _, .o _, .h, _ => rfl
  | .n l _ _, .o k, .o j, e => by simp only [upd]; rw [upd_comm v u l (k := k) (j := j) (fun x => e (by rw [x]))]
  | .n _ _ _, .o _, .i _, _ => rfl
  | .n _ _ _, .i _, .h, _ => rfl
  | .n _ _ _, .i _, .o _, _ => rfl
  | .n _ _ r, .i k, .i j, e => by simp only [upd]; rw [upd_comm v u r (k := k) (j := j) (fun x => e (by rw [x]))]
def putFrom (t : Tr α) (n : Nat) : List α → Tr α
  | [] => t
  | v :: l => (t.upd (kn n) (some v)).putFrom (n + 1) l
theorem get_putFrom (l : List α) : ∀ (t : Tr α) (n j : Nat), (t.putFrom n l).get (kn j) = if n ≤ j ∧ j < n + l.length then l[j - n]? else t.get (kn j) := by
  induction l with
  | nil => intro t n j; simp [putFrom]; omega
  | cons v l ih =>
    intro t n j
    rw [putFrom, ih]
    by_cases h1 : n + 1 ≤ j ∧ j < n + 1 + l.length
    · rw [if_pos h1, if_pos (by simp; omega)]
      obtain ⟨m, rfl⟩ : ∃ m, j = n + 1 + m := ⟨j - n - 1, by omega⟩
      rw [show n + 1 + m - (n + 1) = m from by omega, show n + 1 + m - n = m + 1 from by omega]; rfl
    · rw [if_neg h1, get_upd]
      by_cases h2 : n = j
      · subst h2; simp
      · rw [if_neg (fun e => h2 (Key.kn_inj e)), if_neg (by simp; omega)]
end Tr
inductive SV where
  | bool (b : Bool)
  | int (k : IntKind) (n : Int)
  | str (l : List Nat)
  | ptr (b : Key) (o : Nat)
  | nilp
  | slice (b : Key) (o len es : Nat) (cap : Option Nat)
  | nils
  | map (b : Key)
  | nilm
  | func (f : Nat) (first cap : List (Key × Nat))
  | nilf
  deriving DecidableEq, Inhabited, Repr
inductive CV where
  | s (x : SV)
  | agg (cs : List SV)
  deriving DecidableEq, Inhabited, Repr
inductive AV where
  | v (x : CV)
  | tup (xs : List CV)
  deriving DecidableEq, Inhabited, Repr
def CV.cells : CV → List SV
  | .s x => [x]
  | .agg cs => cs
inductive Body where
  | cells (c : Tr SV) (size : Nat)
  | map (l : List (CV × CV))
  | iter (m : Key) (n : Nat) (st : Nat)
  | siter (l : List Nat) (pos : Nat)
  deriving Inhabited, Repr
structure Blk where
  body : Body
  own : Bool
  anc : List Key
  deriving Inhabited, Repr
structure Heap where
  mem : Tr Blk
  next : Key
  deriving Inhabited, Repr
namespace Heap
def get (h : Heap) (b : Key) : Option Blk := h.mem.get b
def upd (h : Heap) (b : Key) (x : Option Blk) : Heap := { h with mem := h.mem.upd b x }
def killAll (h : Heap) : List Key → Heap
  | [] => h
  | b :: l => (h.upd b none).killAll l
def newB (h : Heap) (x : Blk) : Heap := { mem := h.mem.upd h.next (some x), next := h.next.succ }
def new (h : Heap) (x : Body) : Key × Heap := (h.next, h.newB ⟨x, true, []⟩)
end Heap
end Go.Vm
end
section
namespace Go.Vm
open Key (kn)
inductive VX where
  | t (k : Key)
  | c (v : AV)
  deriving Inhabited
inductive LeafK where
  | bool | int | str
  deriving DecidableEq, Inhabited
inductive KeyK where
  | one (k : LeafK)
  | agg (ks : List LeafK)
  deriving DecidableEq, Inhabited
inductive EqK where
  | bool | ptr | slice | map | func
  | agg (ks : List LeafK)
  deriving DecidableEq, Inhabited
inductive SlK where
  | str
  | slice (es : Nat)
  | arr (n es : Nat)
  deriving Inhabited
inductive VOp where
  | mov
  | pick
  | newz (zs : List SV)
  | box (n : Nat)
  | build (zero : List SV) (places : List (Nat × Nat))
  | bslice (es len : Nat) (zero : List SV) (places : List (Nat × Nat))
  | load1
  | loadn (n : Nat)
  | store (n : Nat)
  | nilchk
  | bin (b : BinOp)
  | eq (neg : Bool) (k : EqK)
  | un (u : UnOp)
  | conv (k : IntKind)
  | s2b
  | b2s
  | mkfunc (f : Nat) (nfirst : Nat)
  | mkmap
  | mkslice (es bytes : Nat) (zero : List SV)
  | slice (k : SlK) (lo hi mx : Bool)
  | faddr (off : Nat)
  | field (off : Nat) (n : Option Nat)
  | iarr (n es : Nat)
  | isl (es : Nat)
  | idx (n es : Nat) (m : Option Nat)
  | sidx
  | lookup (ks : KeyK) (zero : CV) (ok : Bool)
  | mapset (ks : KeyK)
  | extract (i : Nat)
  | lens | lenstr | lenarr (n : Nat) | lenm
  | cap
  | minmax (isMax : Bool)
  | append (es bytes : Nat)
  | copy (es : Nat)
  | mrange | mnext | mentry
  | srange | snext
  | bad
  deriving Inhabited
namespace AV
abbrev int (k : IntKind) (n : Int) : AV := .v (.s (.int k n))
abbrev bool (b : Bool) : AV := .v (.s (.bool b))
abbrev sv (x : SV) : AV := .v (.s x)
abbrev unit : AV := .tup []
end AV
def intBin (b : BinOp) (k : IntKind) (x y : Int) : Option SV :=
  match b with
  | .add => some (.int k (k.wrap (x + y)))
  | .sub => some (.int k (k.wrap (x - y)))
  | .mul => some (.int k (k.wrap (x * y)))
  | .quo => if y = 0 then none else some (.int k (k.wrap (x.tdiv y)))
  | .rem => if y = 0 then none else some (.int k (x.tmod y))
  | .and => some (.int k (k.wrap (BitVec.ofInt k.bits x &&& BitVec.ofInt k.bits y).toNat))
  | .or => some (.int k (k.wrap (BitVec.ofInt k.bits x ||| BitVec.ofInt k.bits y).toNat))
  | .xor => some (.int k (k.wrap (BitVec.ofInt k.bits x ^^^ BitVec.ofInt k.bits y).toNat))
  | .andNot => some (.int k (k.wrap (BitVec.ofInt k.bits x &&& ~~~(BitVec.ofInt k.bits y)).toNat))
  | .eql => some (.bool (x == y))
  | .neq => some (.bool (x != y))
  | .lss => some (.bool (decide (x < y)))
  | .leq => some (.bool (decide (x ≤ y)))
  | .gtr => some (.bool (decide (x > y)))
  | .geq => some (.bool (decide (x ≥ y)))
  | _ => none
def shiftBin (b : BinOp) (k : IntKind) (x y : Int) : Option SV :=
  if y < 0 then none else
  match b with
  | .shl => some (.int k (k.wrap (x * 2 ^ (min y.toNat k.bits))))
  | .shr => some (.int k (x.fdiv (2 ^ (min y.toNat k.bits))))
  | _ => none
def strLess : List Nat → List Nat → Bool
  | _, [] => false
  | [], _ :: _ => true
  | a :: x, b :: y => Nat.blt a b || (Nat.beq a b && strLess x y)
def strBin (b : BinOp) (x y : List Nat) : Option SV :=
  match b with
  | .add => if x.length + y.length ≤ 9223372036854775807 then some (.str (x ++ y)) else none
  | .eql => some (.bool (x == y))
  | .neq => some (.bool (!(x == y)))
  | .lss => some (.bool (strLess x y))
  | .leq => some (.bool (strLess x y || x == y))
  | .gtr => some (.bool (!(strLess x y || x == y)))
  | .geq => some (.bool (!(strLess x y)))
  | _ => none
def isShift : BinOp → Bool
  | .shl | .shr => true
  | _ => false
def binSV (b : BinOp) (x y : SV) : Option SV :=
  match x, y with
  | .int k a, .int k' c => if isShift b then shiftBin b k a c else if k = k' then intBin b k a c else none
  | .str a, .str c => strBin b a c
  | _, _ => none
def eqCell (k : LeafK) (x y : SV) : Option Bool :=
  match k, x, y with
  | .bool, .bool a, .bool b => some (a == b)
  | .int, .int k a, .int k' b => if k = k' then some (a == b) else none
  | .str, .str a, .str b => some (a == b)
  | _, _, _ => none
def eqCells : List LeafK → List SV → List SV → Option Bool
  | [], [], [] => some true
  | k :: ks, x :: xs, y :: ys => match eqCell k x y with
    | some r => match eqCells ks xs ys with
      | some q => some (r && q)
      | none => none
    | none => none
  | _, _, _ => none
def eqCV (ks : KeyK) (x y : CV) : Option Bool :=
  match ks, x, y with
  | .one k, .s a, .s b => eqCell k a b
  | .agg ks, .agg a, .agg b => eqCells ks a b
  | _, _, _ => none
def eqSV (k : EqK) (x y : CV) : Option Bool :=
  match k, x, y with
  | .bool, .s (.bool a), .s (.bool b) => some (a == b)
  | .ptr, .s .nilp, .s .nilp => some true
  | .ptr, .s .nilp, .s (.ptr _ _) => some false
  | .ptr, .s (.ptr _ _), .s .nilp => some false
  | .slice, .s .nils, .s .nils => some true
  | .slice, .s .nils, .s (.slice ..) => some false
  | .slice, .s (.slice ..), .s .nils => some false
  | .map, .s .nilm, .s .nilm => some true
  | .map, .s .nilm, .s (.map _) => some false
  | .map, .s (.map _), .s .nilm => some false
  | .func, .s .nilf, .s .nilf => some true
  | .func, .s .nilf, .s (.func ..) => some false
  | .func, .s (.func ..), .s .nilf => some false
  | .agg ks, .agg a, .agg b => eqCells ks a b
  | _, _, _ => none
def unSV (u : UnOp) (x : SV) : Option SV :=
  match u, x with
  | .neg, .int k n => some (.int k (k.wrap (0 - n)))
  | .xor, .int k n => some (.int k (k.wrap (BitVec.ofInt k.bits (if k.signed then -1 else k.max) ^^^ BitVec.ofInt k.bits n).toNat))
  | .not, .bool b => some (.bool !b)
  | _, _ => none
def Body.ofList (l : List SV) : Body := .cells (Tr.z.putFrom 0 l) l.length
def readN (c : Tr SV) : Nat → Nat → Option (List SV)
  | _, 0 => some []
  | o, n + 1 => match c.get (kn o) with
    | some v => match readN c (o + 1) n with
      | some l => some (v :: l)
      | none => none
    | none => none
namespace Heap
def cells (h : Heap) (b : Key) : Option (Tr SV × Nat) :=
  match h.get b with
  | some ⟨.cells c n, _, _⟩ => some (c, n)
  | _ => none
def read (h : Heap) (b : Key) (o n : Nat) : Option (List SV) :=
  if n = 0 then some [] else
  match h.cells b with
  | some (c, m) => if o + n ≤ m then readN c o n else none
  | none => none
def write (h : Heap) (b : Key) (o : Nat) (l : List SV) : Option Heap :=
  match h.get b with
  | some ⟨.cells c m, true, anc⟩ =>
    if o + l.length ≤ m then some ((h.killAll anc).upd b (some ⟨.cells (c.putFrom o l) m, true, []⟩)) else none
  | _ => none
def copied (c : Tr SV) (m o k : Nat) (new : List SV) : Option Body :=
  if o + k ≤ m then
    if o = 0 then some (.cells (c.putFrom k new) (k + new.length)) else
    match readN c o k with
    | some old => some (Body.ofList (old ++ new))
    | none => none
  else none
def renew (h : Heap) (b : Key) (o k : Nat) (new : List SV) : Option (Key × Heap) :=
  if k = 0 then some (h.new (Body.ofList new)) else
  match h.cells b with
  | some (c, m) => match copied c m o k new with
    | some body => some (h.new body)
    | none => none
  | none => none
def grow (h : Heap) (b : Key) (o k : Nat) (new : List SV) : Option (Key × Heap) :=
  match h.get b with
  | some ⟨.cells c m, true, anc⟩ =>
    match copied c m o k new with
    | some body =>
      if o + k = m then some (h.next, (h.upd b (some ⟨.cells c m, false, anc⟩)).newB ⟨body, true, b :: anc⟩)
      else some (h.next, ((h.killAll anc).upd b none).newB ⟨body, true, []⟩)
    | none => none
  | _ => none
end Heap
def layParts : List SV → List (Nat × Nat) → List AV → Option (List SV)
  | cs, [], [] => some cs
  | cs, (o, n) :: ps, .v x :: xs =>
    if x.cells.length = n ∧ o + n ≤ cs.length then layParts (cs.take o ++ x.cells ++ cs.drop (o + n)) ps xs else none
  | _, _, _ => none
def replZero (zero : List SV) : Nat → List SV
  | 0 => []
  | n + 1 => zero ++ replZero zero n
def partCV (cs : List SV) (o : Nat) : Option Nat → Option CV
  | none => match cs[o]? with
    | some x => some (.s x)
    | none => none
  | some n => if o + n ≤ cs.length then some (.agg ((cs.drop o).take n)) else none
def ptrs : List AV → Option (List (Key × Nat))
  | [] => some []
  | .v (.s (.ptr b o)) :: l => match ptrs l with
    | some r => some ((b, o) :: r)
    | none => none
  | _ => none
def keyFits (ks : KeyK) (k : CV) : Bool :=
  match ks, k with
  | .one _, .s _ => true
  | .agg l, .agg cs => cs.length == l.length
  | _, _ => false
def findCV (ks : KeyK) (k : CV) : List (CV × CV) → Option (Option CV)
  | [] => some none
  | (x, v) :: l => match eqCV ks k x with
    | some true => some (some v)
    | some false => findCV ks k l
    | none => none
def setCV (ks : KeyK) (k v : CV) : List (CV × CV) → Option (List (CV × CV))
  | [] => some [(k, v)]
  | (x, u) :: l => match eqCV ks k x with
    | some true => some ((x, v) :: l)
    | some false => match setCV ks k v l with
      | some r => some ((x, u) :: r)
      | none => none
    | none => none
def popInt : Bool → List AV → Option (Option Int × List AV)
  | false, xs => some (none, xs)
  | true, .v (.s (.int _ n)) :: xs => some (some n, xs)
  | true, _ => none
def optArgs (lo hi mx : Bool) (xs : List AV) : Option (Option Int × Option Int × Option Int) :=
  match popInt lo xs with
  | some (a, xs) => match popInt hi xs with
    | some (b, xs) => match popInt mx xs with
      | some (c, []) => some (a, b, c)
      | _ => none
    | none => none
  | none => none
def bnd (x : Option Int) (top dflt : Nat) : Option Nat :=
  match x with
  | none => some dflt
  | some v => if 0 ≤ v ∧ v ≤ (top : Int) then some v.toNat else none
def bounds (len : Nat) (cap : Option Nat) (bs : Option Int × Option Int × Option Int) : Option (Nat × Nat × Option Nat) :=
  match bnd bs.2.2 (cap.getD len) (cap.getD len) with
  | none => none
  | some m => match bnd bs.2.1 m len with
    | none => none
    | some h => match bnd bs.1 h 0 with
      | none => none
      | some l => some (l, h - l, if bs.2.2.isSome || cap.isSome then some (m - l) else none)
def minmaxSV (isMax : Bool) (k : IntKind) (x : Int) : List AV → Option SV
  | [] => some (.int k x)
  | .v (.s (.int _ y)) :: l => minmaxSV isMax k (if isMax then (if y > x then y else x) else (if y < x then y else x)) l
  | _ => none
def srcCells (h : Heap) (es : Nat) : SV → Option (List SV × Nat)
  | .nils => some ([], 0)
  | .slice b o len es' _ => if es = es' then (match h.read b o (len * es) with
    | some l => some (l, len)
    | none => none) else none
  | .str l => if es = 1 then some (l.map (fun n => SV.int .u8 (n : Nat)), l.length) else none
  | _ => none
def room (n bytes : Nat) : Bool := Nat.ble (2 * n * bytes) 281474976710656
def appendV (h : Heap) (es bytes : Nat) (s : SV) (new : List SV) (n : Nat) : Option (SV × Heap) :=
  match s with
  | .nils =>
    if n = 0 then some (.nils, h) else
    if room n bytes then some (.slice h.next 0 n es none, (h.new (Body.ofList new)).2) else none
  | .slice b o len es' cap =>
    if es = es' then
      if n = 0 then some (s, h) else
      match cap with
      | some c =>
        if len + n ≤ c then
          match h.write b (o + len * es) new with
          | some h => some (.slice b o (len + n) es (some c), h)
          | none => none
        else if room (len + n) bytes then
          match h.renew b o (len * es) new with
          | some (b, h) => some (.slice b 0 (len + n) es none, h)
          | none => none
        else none
      | none =>
        if room (len + n) bytes then
          match h.grow b o (len * es) new with
          | some (b, h) => some (.slice b 0 (len + n) es none, h)
          | none => none
        else none
    else none
  | _ => none
def noHeap (h : Heap) : Option CV → Option (AV × Heap)
  | some x => some (.v x, h)
  | none => none
def noHeapS (h : Heap) : Option SV → Option (AV × Heap)
  | some x => some (.v (.s x), h)
  | none => none
def sliceSV (es : Nat) (x : SV) (bs : Option Int × Option Int × Option Int) : Option SV :=
  match x with
  | .nils => match bounds 0 (some 0) bs with
    | some _ => some .nils
    | none => none
  | .slice b o len es' cap => if es = es' then (match bounds len cap bs with
    | some (l, n, c) => some (.slice b (o + l * es) n es c)
    | none => none) else none
  | _ => none
abbrev R := Option (AV × Heap)
def rMov : List AV → Heap → R
  | [x], h => some (x, h)
  | _, _ => none
def rPick : List AV → Heap → R
  | [.v (.s (.bool c)), a, b], h => some (if c then a else b, h)
  | _, _ => none
def rNewz (zs : List SV) : List AV → Heap → R
  | [], h => some (.v (.s (.ptr h.next 0)), (h.new (Body.ofList zs)).2)
  | _, _ => none
def rBox (n : Nat) : List AV → Heap → R
  | [.v x], h => if x.cells.length = n then some (.v (.s (.ptr h.next 0)), (h.new (Body.ofList x.cells)).2) else none
  | _, _ => none
def rBuild (zero : List SV) (places : List (Nat × Nat)) (xs : List AV) (h : Heap) : R :=
  match layParts zero places xs with
  | some cs => some (.v (.agg cs), h)
  | none => none
def rBslice (es len : Nat) (zero : List SV) (places : List (Nat × Nat)) (xs : List AV) (h : Heap) : R :=
  match layParts (replZero zero len) places xs with
  | some cs => some (.v (.s (.slice h.next 0 len es (some len))), (h.new (Body.ofList cs)).2)
  | none => none
def rLoad1 : List AV → Heap → R
  | [.v (.s (.ptr b o))], h => match h.read b o 1 with
    | some [x] => some (.v (.s x), h)
    | _ => none
  | _, _ => none
def rLoadn (n : Nat) : List AV → Heap → R
  | [.v (.s (.ptr b o))], h => match h.read b o n with
    | some l => some (.v (.agg l), h)
    | none => none
  | _, _ => none
def rStore (n : Nat) : List AV → Heap → R
  | [.v (.s (.ptr b o)), .v x], h => if x.cells.length = n then
      (match h.write b o x.cells with
      | some h => some (.unit, h)
      | none => none) else none
  | _, _ => none
def rNilchk : List AV → Heap → R
  | [.v (.s (.ptr b o))], h => some (.v (.s (.ptr b o)), h)
  | [.v (.s (.func f fs cs))], h => some (.v (.s (.func f fs cs)), h)
  | _, _ => none
def rBin (b : BinOp) : List AV → Heap → R
  | [.v (.s x), .v (.s y)], h => noHeapS h (binSV b x y)
  | _, _ => none
def rEq (neg : Bool) (k : EqK) : List AV → Heap → R
  | [.v x, .v y], h => match eqSV k x y with
    | some r => some (.v (.s (.bool (r != neg))), h)
    | none => none
  | _, _ => none
def rUn (u : UnOp) : List AV → Heap → R
  | [.v (.s x)], h => noHeapS h (unSV u x)
  | _, _ => none
def rConv (k : IntKind) : List AV → Heap → R
  | [.v (.s (.int _ n))], h => some (.v (.s (.int k (k.wrap n))), h)
  | _, _ => none
def rS2b : List AV → Heap → R
  | [.v (.s (.str l))], h => if room l.length 1 then
      some (.v (.s (.slice h.next 0 l.length 1 none)), h.newB ⟨Body.ofList (l.map (fun n => SV.int .u8 (n : Nat))), false, []⟩) else none
  | _, _ => none
def byteOf : SV → Option Nat
  | .int .u8 n => if 0 ≤ n ∧ n < 256 then some n.toNat else none
  | _ => none
def bytesOfSV : List SV → Option (List Nat)
  | [] => some []
  | x :: l => match byteOf x, bytesOfSV l with
    | some n, some r => some (n :: r)
    | _, _ => none
def rB2s : List AV → Heap → R
  | [.v (.s (.slice b o len es c))], h => match srcCells h 1 (.slice b o len es c) with
    | some (l, _) => match bytesOfSV l with
      | some l => some (.v (.s (.str l)), h)
      | none => none
    | none => none
  | [.v (.s .nils)], h => some (.v (.s (.str [])), h)
  | _, _ => none
def rMkfunc (f n : Nat) (xs : List AV) (h : Heap) : R :=
  match ptrs xs with
  | some l => some (.v (.s (.func f (l.take n) (l.drop n))), h)
  | none => none
def rMkmap : List AV → Heap → R
  | [], h => some (.v (.s (.map h.next)), (h.new (.map [])).2)
  | [.v (.s (.int _ _))], h => some (.v (.s (.map h.next)), (h.new (.map [])).2)
  | _, _ => none
def rMkslice (es bytes : Nat) (zero : List SV) : List AV → Heap → R
  | [.v (.s (.int _ l)), .v (.s (.int _ c))], h =>
    if 0 ≤ l ∧ l ≤ c ∧ c ≤ 1099511627776 ∧ Nat.ble (bytes * c.toNat) 281474976710656 then
      some (.v (.s (.slice h.next 0 l.toNat es (some c.toNat))), (h.new (Body.ofList (replZero zero c.toNat))).2) else none
  | _, _ => none
def rSlice (k : SlK) (lo hi mx : Bool) : List AV → Heap → R
  | x :: xs, h => match optArgs lo hi mx xs with
    | some bs => match k, x with
      | .str, .v (.s (.str l)) => if mx then none else (match bounds l.length (some l.length) bs with
        | some (a, b, _) => some (.v (.s (.str ((l.drop a).take b))), h)
        | none => none)
      | .slice es, .v (.s x) => noHeapS h (sliceSV es x bs)
      | .arr n es, .v (.s (.ptr b o)) => noHeapS h (sliceSV es (.slice b o n es (some n)) bs)
      | _, _ => none
    | none => none
  | _, _ => none
def rFaddr (off : Nat) : List AV → Heap → R
  | [.v (.s (.ptr b o))], h => some (.v (.s (.ptr b (o + off))), h)
  | _, _ => none
def rField (off : Nat) (n : Option Nat) : List AV → Heap → R
  | [.v (.agg cs)], h => noHeap h (partCV cs off n)
  | _, _ => none
def rIarr (n es : Nat) : List AV → Heap → R
  | [.v (.s (.ptr b o)), .v (.s (.int _ i))], h => if 0 ≤ i ∧ i < (n : Int) then some (.v (.s (.ptr b (o + i.toNat * es))), h) else none
  | _, _ => none
def rIsl (es : Nat) : List AV → Heap → R
  | [.v (.s (.slice b o len es' _)), .v (.s (.int _ i))], h => if es = es' ∧ 0 ≤ i ∧ i < (len : Int) then some (.v (.s (.ptr b (o + i.toNat * es))), h) else none
  | _, _ => none
def rIdx (n es : Nat) (m : Option Nat) : List AV → Heap → R
  | [.v (.agg cs), .v (.s (.int _ i))], h => if 0 ≤ i ∧ i < (n : Int) then noHeap h (partCV cs (i.toNat * es) m) else none
  | _, _ => none
def rSidx : List AV → Heap → R
  | [.v (.s (.str l)), .v (.s (.int _ i))], h => if 0 ≤ i then (match l[i.toNat]? with
      | some n => some (.v (.s (.int .u8 (n : Nat))), h)
      | none => none) else none
  | _, _ => none
def rLookup (ks : KeyK) (zero : CV) (ok : Bool) : List AV → Heap → R
  | [.v (.s .nilm), .v k], h => if keyFits ks k then some (if ok then .tup [zero, .s (.bool false)] else .v zero, h) else none
  | [.v (.s (.map b)), .v k], h => if keyFits ks k then (match h.get b with
    | some ⟨.map l, _, _⟩ => match findCV ks k l with
      | some r => some (if ok then .tup [r.getD zero, .s (.bool r.isSome)] else .v (r.getD zero), h)
      | none => none
    | _ => none) else none
  | _, _ => none
def rMapset (ks : KeyK) : List AV → Heap → R
  | [.v (.s (.map b)), .v k, .v v], h => if keyFits ks k then (match h.get b with
    | some ⟨.map l, true, []⟩ => match setCV ks k v l with
      | some l => some (.unit, h.upd b (some ⟨.map l, true, []⟩))
      | none => none
    | _ => none) else none
  | _, _ => none
def rExtract (i : Nat) : List AV → Heap → R
  | [.tup xs], h => noHeap h xs[i]?
  | _, _ => none
def rLens : List AV → Heap → R
  | [.v (.s (.slice _ _ len _ _))], h => some (.int .i64 (len : Nat), h)
  | [.v (.s .nils)], h => some (.int .i64 (0 : Nat), h)
  | _, _ => none
def rLenstr : List AV → Heap → R
  | [.v (.s (.str l))], h => some (.int .i64 (l.length : Nat), h)
  | _, _ => none
def rLenarr (n : Nat) : List AV → Heap → R
  | [_], h => some (.int .i64 (n : Nat), h)
  | _, _ => none
def rLenm : List AV → Heap → R
  | [.v (.s .nilm)], h => some (.int .i64 (0 : Nat), h)
  | [.v (.s (.map b))], h => match h.get b with
    | some ⟨.map l, _, _⟩ => some (.int .i64 (l.length : Nat), h)
    | _ => none
  | _, _ => none
def rCap : List AV → Heap → R
  | [.v (.s (.slice _ _ _ _ (some c)))], h => some (.int .i64 (c : Nat), h)
  | [.v (.s .nils)], h => some (.int .i64 (0 : Nat), h)
  | _, _ => none
def rMinmax (m : Bool) : List AV → Heap → R
  | .v (.s (.int k x)) :: xs, h => noHeapS h (minmaxSV m k x xs)
  | _, _ => none
def rAppend (es bytes : Nat) : List AV → Heap → R
  | [.v (.s s), .v (.s x)], h => match srcCells h es x with
    | some (new, n) => match appendV h es bytes s new n with
      | some (s, h) => some (.v (.s s), h)
      | none => none
    | none => none
  | _, _ => none
def rCopy (es : Nat) : List AV → Heap → R
  | [.v (.s d), .v (.s x)], h => match srcCells h es x with
    | some (src, n) => match d with
      | .nils => some (.int .i64 (0 : Nat), h)
      | .slice b o len es' _ => if es = es' then
          (if min n len = 0 then some (.int .i64 (0 : Nat), h) else
          match h.write b o (src.take (min n len * es)) with
          | some h => some (.int .i64 (min n len : Nat), h)
          | none => none) else none
      | _ => none
    | none => none
  | _, _ => none
def rMrange : List AV → Heap → R
  | [.v (.s (.map b))], h => match h.get b with
    | some ⟨.map l, _, _⟩ => if l.length ≤ 1 then some (.v (.s (.ptr h.next 0)), (h.new (.iter b l.length 0)).2) else none
    | _ => none
  | _, _ => none
def rMnext : List AV → Heap → R
  | [.v (.s (.ptr i 0))], h => match h.get i with
    | some ⟨.iter b n st, true, []⟩ => match h.get b with
      | some ⟨.map l, _, _⟩ => if l.length = n then (match st, l with
        | 0, [(k, v)] => some (.tup [.s (.bool true), k, v], h.upd i (some ⟨.iter b n 1, true, []⟩))
        | 0, [] => some (.tup [.s (.bool false)], h)
        | _ + 1, [_] => some (.tup [.s (.bool false)], h)
        | _, _ => none) else none
      | _ => none
    | _ => none
  | _, _ => none
def rMentry : List AV → Heap → R
  | [.v (.s (.ptr i 0))], h => match h.get i with
    | some ⟨.iter b n 1, _, _⟩ => match h.get b with
      | some ⟨.map [(k, v)], _, _⟩ => if n = 1 then some (.tup [k, v], h) else none
      | _ => none
    | _ => none
  | _, _ => none
def VOp.run (op : VOp) (args : List AV) (h : Heap) : R :=
  match op with
  | .mov => rMov args h
  | .pick => rPick args h
  | .newz zs => rNewz zs args h
  | .box n => rBox n args h
  | .build z p => rBuild z p args h
  | .bslice es len z p => rBslice es len z p args h
  | .load1 => rLoad1 args h
  | .loadn n => rLoadn n args h
  | .store n => rStore n args h
  | .nilchk => rNilchk args h
  | .bin b => rBin b args h
  | .eq neg k => rEq neg k args h
  | .un u => rUn u args h
  | .conv k => rConv k args h
  | .s2b => rS2b args h
  | .b2s => rB2s args h
  | .mkfunc f n => rMkfunc f n args h
  | .mkmap => rMkmap args h
  | .mkslice es by' z => rMkslice es by' z args h
  | .slice k lo hi mx => rSlice k lo hi mx args h
  | .faddr off => rFaddr off args h
  | .field off n => rField off n args h
  | .iarr n es => rIarr n es args h
  | .isl es => rIsl es args h
  | .idx n es m => rIdx n es m args h
  | .sidx => rSidx args h
  | .lookup ks z ok => rLookup ks z ok args h
  | .mapset ks => rMapset ks args h
  | .extract i => rExtract i args h
  | .lens => rLens args h
  | .lenstr => rLenstr args h
  | .lenarr n => rLenarr n args h
  | .lenm => rLenm args h
  | .cap => rCap args h
  | .minmax m => rMinmax m args h
  | .append es by' => rAppend es by' args h
  | .copy es => rCopy es args h
  | .mrange => rMrange args h
  | .mnext => rMnext args h
  | .mentry => rMentry args h
  | .srange => none
  | .snext => none
  | .bad => none
end Go.Vm
end
section
namespace Go.Vm
open Key (kn)
inductive VAct where
  | op (o : VOp)
  | call (f : Nat)
  | callv
  deriving Inhabited
structure VOper where
  dst : Option Key
  act : VAct
  args : List VX
  guard : Option (Key × Bool)
  deriving Inhabited
inductive Kind where
  | quiet | alloc | effect
  deriving DecidableEq, Inhabited
def VOp.kind : VOp → Kind
  | .newz _ | .box _ | .bslice .. | .mkmap | .mkslice .. | .s2b => .alloc
  | .store _ | .mapset _ | .append .. | .copy _ | .mrange | .mnext | .mentry | .b2s => .effect
  | _ => .quiet
def VAct.kind : VAct → Kind
  | .op o => o.kind
  | _ => .effect
structure DOp where
  o : VOper
  chk : Nat
  deriving Inhabited
inductive VCode where
  | skip
  | region (ops : List VOper)
  | drawn (ops : List DOp)
  | seq (a b : VCode)
  | cond (c : VX) (a b : VCode)
  | block (id : Nat) (c : VCode)
  | loop (c : VCode)
  | exit (id : Nat)
  | ret
  deriving Inhabited
inductive VRes where
  | tmp (k : Key)
  | cell1 (k : Key)
  | celln (k : Key) (n : Nat)
  deriving Inhabited
structure VFunc where
  results : List VRes
  body : VCode
  deriving Inhabited
inductive VExit where
  | normal | exit (id : Nat) | ret
  deriving DecidableEq, Inhabited
abbrev Fr := Tr AV
def VX.eval (fr : Fr) : VX → Option AV
  | .t k => fr.get k
  | .c v => some v
def fetch (fr : Fr) : List VX → Option (List AV)
  | [] => some []
  | x :: l => match x.eval fr with
    | some v => match fetch fr l with
      | some vs => some (v :: vs)
      | none => none
    | none => none
def putV (fr : Fr) : Option Key → AV → Fr
  | some k, v => fr.upd k (some v)
  | none, _ => fr
def wantedV (fr : Fr) : Option (Key × Bool) → Option Bool
  | none => some true
  | some (k, b) => match fr.get k with
    | some (.v (.s (.bool c))) => some (c == b)
    | some _ => some false
    | none => none
abbrev Caller := Nat → List AV → Heap → Option (AV × Heap)
def VAct.run (call : Caller) (a : VAct) (args : List AV) (h : Heap) : Option (AV × Heap) :=
  match a with
  | .op o => o.run args h
  | .call f => call f args h
  | .callv => match args with
    | .v (.s (.func f fs cs)) :: xs => call f (fs.map (fun p => AV.v (.s (.ptr p.1 p.2))) ++ xs ++ cs.map (fun p => AV.v (.s (.ptr p.1 p.2)))) h
    | _ => none
def VOper.run (call : Caller) (o : VOper) (fr : Fr) (h : Heap) : Option (Fr × Heap) :=
  match wantedV fr o.guard with
  | some true => match fetch fr o.args with
    | some args => match o.act.run call args h with
      | some (v, h) => some (putV fr o.dst v, h)
      | none => none
    | none => none
  | some false => some (putV fr o.dst .unit, h)
  | none => none
def runOps (call : Caller) : List VOper → Fr → Heap → Option (Fr × Heap)
  | [], fr, h => some (fr, h)
  | o :: l, fr, h => match o.run call fr h with
    | some (fr, h) => runOps call l fr h
    | none => none
def rdBlk : VOp → List AV → Option Key
  | .load1, .v (.s (.ptr b _)) :: _ => some b
  | .loadn n, .v (.s (.ptr b _)) :: _ => if n = 0 then none else some b
  | .lookup .., .v (.s (.map b)) :: _ => some b
  | .lenm, .v (.s (.map b)) :: _ => some b
  | _, _ => none
def SV.beq (a b : SV) : Bool := decide (a = b)
def AV.beq (a b : AV) : Bool := decide (a = b)
def sameIn (o : VOp) (args : List AV) (v : AV) : List Heap → Bool
  | [] => true
  | h :: l => (match o.run args h with
    | some (u, _) => AV.beq u v
    | none => false) && sameIn o args v l
def outside (lo hi : Key) (o : VOp) (args : List AV) : Bool :=
  match rdBlk o args with
  | some b => Nat.blt b.toNat lo.toNat || Nat.ble hi.toNat b.toNat
  | none => true
def nAlloc : List DOp → Nat
  | [] => 0
  | d :: l => (if d.o.act.kind = .alloc then 1 else 0) + nAlloc l
def succs : Key → Nat → Key
  | k, 0 => k
  | k, n + 1 => succs k.succ n
def runDrawn (call : Caller) (lo hi : Key) : List DOp → Key → List Heap → Fr → Heap → Option (Fr × Heap)
  | [], _, _, fr, h => some (fr, h)
  | d :: l, r, snaps, fr, h =>
    match d.o.act.kind with
    | .effect => match d.o.run call fr h with
      | some (fr', h') => runDrawn call lo hi l r (snaps ++ [h]) fr' h'
      | none => none
    | .alloc => match d.o.run call fr { h with next := r } with
      | some (fr', h') => runDrawn call lo hi l r.succ snaps fr' { h' with next := h.next }
      | none => none
    | .quiet => match wantedV fr d.o.guard, d.o.act with
      | some true, .op o => match fetch fr d.o.args with
        | some args => match o.run args h with
          | some (v, _) =>
            if outside lo hi o args && sameIn o args v (snaps.drop d.chk) then
              runDrawn call lo hi l r snaps (putV fr d.o.dst v) h
            else none
          | none => none
        | none => none
      | some false, _ => runDrawn call lo hi l r snaps (putV fr d.o.dst .unit) h
      | _, _ => none
def resultV (fr : Fr) (h : Heap) : VRes → Option CV
  | .tmp k => match fr.get k with
    | some (.v x) => some x
    | _ => none
  | .cell1 k => match fr.get k with
    | some (.v (.s (.ptr b o))) => match h.read b o 1 with
      | some [x] => some (.s x)
      | _ => none
    | _ => none
  | .celln k n => match fr.get k with
    | some (.v (.s (.ptr b o))) => match h.read b o n with
      | some l => some (.agg l)
      | none => none
    | _ => none
def resultsV (fr : Fr) (h : Heap) : List VRes → Option (List CV)
  | [] => some []
  | r :: l => match resultV fr h r with
    | some x => match resultsV fr h l with
      | some xs => some (x :: xs)
      | none => none
    | none => none
def oneOrTup : List CV → AV
  | [x] => .v x
  | l => .tup l
abbrev Funcs := Nat → Option VFunc
abbrev Oracle := Nat → Option (List AV → Heap → Option (AV × Heap))
def callV (F : Funcs) (O : Oracle) (ex : VCode → Fr → Heap → Option (VExit × Fr × Heap)) : Caller := fun f args h =>
  match O f with
  | some g => g args h
  | none => match F f with
    | some vf => match ex vf.body (Tr.z.putFrom 0 args) h with
      | some (.exit _, _, _) => none
      | some (_, fr, h) => match resultsV fr h vf.results with
        | some l => some (oneOrTup l, h)
        | none => none
      | none => none
    | none => none
def exec (F : Funcs) (O : Oracle) : Nat → VCode → Fr → Heap → Option (VExit × Fr × Heap)
  | 0, _, _, _ => none
  | n + 1, c, fr, h => match c with
    | .skip => some (.normal, fr, h)
    | .region ops => match runOps (callV F O (exec F O n)) ops fr h with
      | some (fr, h) => some (.normal, fr, h)
      | none => none
    | .drawn ops =>
      let hi := succs h.next (nAlloc ops)
      match runDrawn (callV F O (exec F O n)) h.next hi ops h.next [] fr { h with next := hi } with
      | some (fr, h) => some (.normal, fr, h)
      | none => none
    | .seq a b => match exec F O n a fr h with
      | some (.normal, fr, h) => exec F O n b fr h
      | r => r
    | .cond c a b => match c.eval fr with
      | some (.v (.s (.bool true))) => exec F O n a fr h
      | some (.v (.s (.bool false))) => exec F O n b fr h
      | _ => none
    | .block id c => match exec F O n c fr h with
      | some (.exit j, fr, h) => if j = id then some (.normal, fr, h) else some (.exit j, fr, h)
      | r => r
    | .loop c => match exec F O n c fr h with
      | some (.normal, fr, h) => exec F O n (.loop c) fr h
      | r => r
    | .exit id => some (.exit id, fr, h)
    | .ret => some (.ret, fr, h)
end Go.Vm
end
section
namespace Go.Pv
open Go.Vm
open Go.Vm.Key (kn)
inductive PV where
  | bool (b : Bool)
  | int (k : IntKind) (n : Int)
  | str (l : List Nat)
  | ptr (b : Key) (o : Nat)
  | nilp
  | slice (b : Key) (o len es : Nat) (cap : Option Nat)
  | nils
  | map (b : Key)
  | nilm
  | func (f : Nat) (first cap : List (Key × Nat))
  | nilf
  | lst (es : Nat) (l : List (List PV)) (cap : Option Nat)
  | rp (l : List PV)
  deriving Inhabited
inductive PC where
  | s (x : PV)
  | agg (cs : List PV)
  deriving Inhabited
inductive PA where
  | v (x : PC)
  | tup (xs : List PC)
  deriving Inhabited
def PC.cells : PC → List PV
  | .s x => [x]
  | .agg cs => cs
namespace PA
abbrev int (k : IntKind) (n : Int) : PA := .v (.s (.int k n))
abbrev bool (b : Bool) : PA := .v (.s (.bool b))
abbrev sv (x : PV) : PA := .v (.s x)
abbrev unit : PA := .tup []
end PA
inductive PBody where
  | cells (c : List PV)
  | map (l : List (PC × PC))
  | iter (m : Key) (n : Nat) (st : Nat)
  deriving Inhabited
structure PBlk where
  body : PBody
  own : Bool
  frz : Bool
  anc : List Key
  log : List (Nat × Nat)
  deriving Inhabited
structure PHeap where
  mem : Tr PBlk
  next : Key
  deriving Inhabited
namespace PHeap
def empty : PHeap := ⟨.z, .h⟩
def get (h : PHeap) (b : Key) : Option PBlk := h.mem.get b
def upd (h : PHeap) (b : Key) (x : Option PBlk) : PHeap := { h with mem := h.mem.upd b x }
def killAll (h : PHeap) : List Key → PHeap
  | [] => h
  | b :: l => (h.upd b none).killAll l
def newB (h : PHeap) (body : PBody) (own : Bool) (anc : List Key) : PHeap :=
  { mem := h.mem.upd h.next (some ⟨body, own, false, anc, []⟩), next := h.next.succ }
def new (h : PHeap) (body : PBody) : PHeap := h.newB body true []
def anyFrz (h : PHeap) : List Key → Bool
  | [] => false
  | b :: l => (match h.get b with
    | some x => x.frz
    | none => false) || h.anyFrz l
def cells (h : PHeap) (b : Key) : Option (List PV) :=
  match h.get b with
  | some ⟨.cells c, _, _, _, _⟩ => some c
  | _ => none
def read (h : PHeap) (b : Key) (o n : Nat) : Option (List PV) :=
  if n = 0 then some [] else
  match h.cells b with
  | some c => if o + n ≤ c.length then some ((c.drop o).take n) else none
  | none => none
def over (c : List PV) (o : Nat) (l : List PV) : List PV := c.take o ++ l ++ c.drop (o + l.length)
def write (h : PHeap) (b : Key) (o : Nat) (l : List PV) : Option PHeap :=
  match h.get b with
  | some ⟨.cells c, true, false, anc, log⟩ =>
    if o + l.length ≤ c.length ∧ h.anyFrz anc = false then
      some ((h.killAll anc).upd b (some ⟨.cells (over c o l), true, false, [], (o, l.length) :: log⟩)) else none
  | _ => none
def copied (c : List PV) (o k : Nat) (new : List PV) : Option PBody :=
  if o + k ≤ c.length then some (.cells ((c.drop o).take k ++ new)) else none
def renew (h : PHeap) (b : Key) (o k : Nat) (new : List PV) : Option (Key × PHeap) :=
  if k = 0 then some (h.next, h.new (.cells new)) else
  match h.cells b with
  | some c => match copied c o k new with
    | some body => some (h.next, h.new body)
    | none => none
  | none => none
def grow (h : PHeap) (b : Key) (o k : Nat) (new : List PV) : Option (Key × PHeap) :=
  match h.get b with
  | some ⟨.cells c, true, frz, anc, log⟩ =>
    match copied c o k new with
    | some body =>
      if o + k = c.length then some (h.next, (h.upd b (some ⟨.cells c, false, frz, anc, log⟩)).newB body true (b :: anc))
      else if frz = false ∧ h.anyFrz anc = false then some (h.next, ((h.killAll anc).upd b none).newB body true [])
      else none
    | none => none
  | _ => none
end PHeap
def ofSV : SV → Option PV
  | .bool b => some (.bool b)
  | .int k n => some (.int k n)
  | .str l => some (.str l)
  | .nilp => some .nilp
  | .nils => some .nils
  | .nilm => some .nilm
  | .nilf => some .nilf
  | .func f [] [] => some (.func f [] [])
  | _ => none
def ofSVs : List SV → Option (List PV)
  | [] => some []
  | x :: l => match ofSV x with
    | some y => match ofSVs l with
      | some ys => some (y :: ys)
      | none => none
    | none => none
def ofCV : CV → Option PC
  | .s x => match ofSV x with
    | some y => some (.s y)
    | none => none
  | .agg cs => match ofSVs cs with
    | some l => some (.agg l)
    | none => none
def ofAV : AV → Option PA
  | .v x => match ofCV x with
    | some y => some (.v y)
    | none => none
  | .tup _ => none
def toSV : PV → Option SV
  | .bool b => some (.bool b)
  | .int k n => some (.int k n)
  | .str l => some (.str l)
  | _ => none
def toSVs : List PV → Option (List SV)
  | [] => some []
  | x :: l => match toSV x with
    | some y => match toSVs l with
      | some ys => some (y :: ys)
      | none => none
    | none => none
def toCV : PC → Option CV
  | .s x => match toSV x with
    | some y => some (.s y)
    | none => none
  | .agg cs => match toSVs cs with
    | some l => some (.agg l)
    | none => none
def binP (b : BinOp) (x y : PV) : Option PV :=
  match x, y with
  | .int k a, .int k' c => match (if isShift b then shiftBin b k a c else if k = k' then intBin b k a c else none) with
    | some s => ofSV s
    | none => none
  | .str a, .str c => match strBin b a c with
    | some s => ofSV s
    | none => none
  | _, _ => none
def unP (u : UnOp) (x : PV) : Option PV :=
  match toSV x with
  | some s => match unSV u s with
    | some r => ofSV r
    | none => none
  | none => none
def eqP (k : EqK) (x y : PC) : Option Bool :=
  match k, x, y with
  | .bool, .s (.bool a), .s (.bool b) => some (a == b)
  | .ptr, .s .nilp, .s .nilp => some true
  | .ptr, .s .nilp, .s (.ptr _ _) => some false
  | .ptr, .s (.ptr _ _), .s .nilp => some false
  | .ptr, .s .nilp, .s (.rp _) => some false
  | .ptr, .s (.rp _), .s .nilp => some false
  | .slice, .s .nils, .s .nils => some true
  | .slice, .s .nils, .s (.slice ..) => some false
  | .slice, .s (.slice ..), .s .nils => some false
  | .slice, .s .nils, .s (.lst ..) => some false
  | .slice, .s (.lst ..), .s .nils => some false
  | .map, .s .nilm, .s .nilm => some true
  | .map, .s .nilm, .s (.map _) => some false
  | .map, .s (.map _), .s .nilm => some false
  | .func, .s .nilf, .s .nilf => some true
  | .func, .s .nilf, .s (.func ..) => some false
  | .func, .s (.func ..), .s .nilf => some false
  | .agg ks, .agg a, .agg b => match toSVs a, toSVs b with
    | some a, some b => eqCells ks a b
    | _, _ => none
  | _, _, _ => none
def layP : List PV → List (Nat × Nat) → List PA → Option (List PV)
  | cs, [], [] => some cs
  | cs, (o, n) :: ps, .v x :: xs =>
    if x.cells.length = n ∧ o + n ≤ cs.length then layP (PHeap.over cs o x.cells) ps xs else none
  | _, _, _ => none
def replP (zero : List PV) : Nat → List PV
  | 0 => []
  | n + 1 => zero ++ replP zero n
def partP (cs : List PV) (o : Nat) : Option Nat → Option PC
  | none => match cs[o]? with
    | some x => some (.s x)
    | none => none
  | some n => if o + n ≤ cs.length then some (.agg ((cs.drop o).take n)) else none
def ptrsP : List PA → Option (List (Key × Nat))
  | [] => some []
  | .v (.s (.ptr b o)) :: l => match ptrsP l with
    | some r => some ((b, o) :: r)
    | none => none
  | _ => none
def keyFitsP (ks : KeyK) (k : PC) : Bool :=
  match ks, k with
  | .one _, .s _ => true
  | .agg l, .agg cs => cs.length == l.length
  | _, _ => false
def eqKey (ks : KeyK) (x y : PC) : Option Bool :=
  match toCV x, toCV y with
  | some a, some b => eqCV ks a b
  | _, _ => none
def findP (ks : KeyK) (k : PC) : List (PC × PC) → Option (Option PC)
  | [] => some none
  | (x, v) :: l => match eqKey ks k x with
    | some true => some (some v)
    | some false => findP ks k l
    | none => none
def setP (ks : KeyK) (k v : PC) : List (PC × PC) → Option (List (PC × PC))
  | [] => some [(k, v)]
  | (x, u) :: l => match eqKey ks k x with
    | some true => some ((x, v) :: l)
    | some false => match setP ks k v l with
      | some r => some ((x, u) :: r)
      | none => none
    | none => none
def popP : Bool → List PA → Option (Option Int × List PA)
  | false, xs => some (none, xs)
  | true, .v (.s (.int _ n)) :: xs => some (some n, xs)
  | true, _ => none
def optP (lo hi mx : Bool) (xs : List PA) : Option (Option Int × Option Int × Option Int) :=
  match popP lo xs with
  | some (a, xs) => match popP hi xs with
    | some (b, xs) => match popP mx xs with
      | some (c, []) => some (a, b, c)
      | _ => none
    | none => none
  | none => none
def minmaxP (isMax : Bool) (k : IntKind) (x : Int) : List PA → Option PV
  | [] => some (.int k x)
  | .v (.s (.int _ y)) :: l => minmaxP isMax k (if isMax then (if y > x then y else x) else (if y < x then y else x)) l
  | _ => none
def srcP (h : PHeap) (es : Nat) : PV → Option (List PV × Nat)
  | .nils => some ([], 0)
  | .slice b o len es' _ => if es = es' then (match h.read b o (len * es) with
    | some l => some (l, len)
    | none => none) else none
  | .lst es' l _ => if es = es' then some (l.flatten, l.length) else none
  | .str l => if es = 1 then some (l.map (fun n => PV.int .u8 (n : Nat)), l.length) else none
  | _ => none
def appendP (h : PHeap) (es bytes : Nat) (s : PV) (new : List PV) (n : Nat) : Option (PV × PHeap) :=
  match s with
  | .nils =>
    if n = 0 then some (.nils, h) else
    if room n bytes then some (.slice h.next 0 n es none, h.new (.cells new)) else none
  | .slice b o len es' cap =>
    if es = es' then
      if n = 0 then some (s, h) else
      match cap with
      | some c =>
        if len + n ≤ c then
          match h.write b (o + len * es) new with
          | some h => some (.slice b o (len + n) es (some c), h)
          | none => none
        else if room (len + n) bytes then
          match h.renew b o (len * es) new with
          | some (b, h) => some (.slice b 0 (len + n) es none, h)
          | none => none
        else none
      | none =>
        if room (len + n) bytes then
          match h.grow b o (len * es) new with
          | some (b, h) => some (.slice b 0 (len + n) es none, h)
          | none => none
        else none
    else none
  | .lst es' l cap =>
    if es = es' then
      if n = 0 then some (s, h) else
      match cap with
      | some c =>
        if l.length + n ≤ c then none
        else if room (l.length + n) bytes then some (.slice h.next 0 (l.length + n) es none, h.new (.cells (l.flatten ++ new)))
        else none
      | none => none
    else none
  | _ => none
def lstCap (i : Nat) (cap : Option Nat) : Option Int → Option Nat
  | some m => some (m.toNat - i)
  | none => match cap with
    | some c => some (c - i)
    | none => none
def capFits (n : Nat) : Option Nat → Bool
  | some c => Nat.ble n c
  | none => true
def sliceP (es : Nat) (x : PV) (bs : Option Int × Option Int × Option Int) : Option PV :=
  match x with
  | .nils => match bounds 0 (some 0) bs with
    | some _ => some .nils
    | none => none
  | .slice b o len es' cap => if es = es' then (match bounds len cap bs with
    | some (l, n, c) => some (.slice b (o + l * es) n es c)
    | none => none) else none
  | .lst es' l cap => if es = es' then (match bounds l.length none bs with
    | some (i, n, _) => if capFits n (lstCap i cap bs.2.2) then some (.lst es ((l.drop i).take n) (lstCap i cap bs.2.2)) else none
    | none => none) else none
  | _ => none
abbrev PR := Option (PA × PHeap)
def noP (h : PHeap) : Option PC → PR
  | some x => some (.v x, h)
  | none => none
def noPS (h : PHeap) : Option PV → PR
  | some x => some (.v (.s x), h)
  | none => none
def pMov : List PA → PHeap → PR
  | [x], h => some (x, h)
  | _, _ => none
def pPick : List PA → PHeap → PR
  | [.v (.s (.bool c)), a, b], h => some (if c then a else b, h)
  | _, _ => none
def pNewz (zs : List SV) : List PA → PHeap → PR
  | [], h => match ofSVs zs with
    | some l => some (.v (.s (.ptr h.next 0)), h.new (.cells l))
    | none => none
  | _, _ => none
def pBox (n : Nat) : List PA → PHeap → PR
  | [.v x], h => if x.cells.length = n then some (.v (.s (.ptr h.next 0)), h.new (.cells x.cells)) else none
  | _, _ => none
def pBuild (zero : List SV) (places : List (Nat × Nat)) (xs : List PA) (h : PHeap) : PR :=
  match ofSVs zero with
  | some z => match layP z places xs with
    | some cs => some (.v (.agg cs), h)
    | none => none
  | none => none
def pBslice (es len : Nat) (zero : List SV) (places : List (Nat × Nat)) (xs : List PA) (h : PHeap) : PR :=
  match ofSVs zero with
  | some z => match layP (replP z len) places xs with
    | some cs => some (.v (.s (.slice h.next 0 len es (some len))), h.new (.cells cs))
    | none => none
  | none => none
def pLoad1 : List PA → PHeap → PR
  | [.v (.s (.ptr b o))], h => match h.read b o 1 with
    | some [x] => some (.v (.s x), h)
    | _ => none
  | [.v (.s (.rp (x :: _)))], h => some (.v (.s x), h)
  | _, _ => none
def pLoadn (n : Nat) : List PA → PHeap → PR
  | [.v (.s (.ptr b o))], h => match h.read b o n with
    | some l => some (.v (.agg l), h)
    | none => none
  | [.v (.s (.rp l))], h => if n ≤ l.length then some (.v (.agg (l.take n)), h) else none
  | _, _ => none
def pStore (n : Nat) : List PA → PHeap → PR
  | [.v (.s (.ptr b o)), .v x], h => if x.cells.length = n then
      (match h.write b o x.cells with
      | some h => some (.unit, h)
      | none => none) else none
  | _, _ => none
def pNilchk : List PA → PHeap → PR
  | [.v (.s (.ptr b o))], h => some (.v (.s (.ptr b o)), h)
  | [.v (.s (.rp l))], h => some (.v (.s (.rp l)), h)
  | [.v (.s (.func f fs cs))], h => some (.v (.s (.func f fs cs)), h)
  | _, _ => none
def pBin (b : BinOp) : List PA → PHeap → PR
  | [.v (.s x), .v (.s y)], h => noPS h (binP b x y)
  | _, _ => none
def pEq (neg : Bool) (k : EqK) : List PA → PHeap → PR
  | [.v x, .v y], h => match eqP k x y with
    | some r => some (.v (.s (.bool (r != neg))), h)
    | none => none
  | _, _ => none
def pUn (u : UnOp) : List PA → PHeap → PR
  | [.v (.s x)], h => noPS h (unP u x)
  | _, _ => none
def pConv (k : IntKind) : List PA → PHeap → PR
  | [.v (.s (.int _ n))], h => some (.v (.s (.int k (k.wrap n))), h)
  | _, _ => none
def pS2b : List PA → PHeap → PR
  | [.v (.s (.str l))], h => if room l.length 1 then
      some (.v (.s (.slice h.next 0 l.length 1 none)), h.newB (.cells (l.map (fun n => PV.int .u8 (n : Nat)))) false []) else none
  | _, _ => none
def byteP : PV → Option Nat
  | .int .u8 n => if 0 ≤ n ∧ n < 256 then some n.toNat else none
  | _ => none
def bytesP : List PV → Option (List Nat)
  | [] => some []
  | x :: l => match byteP x, bytesP l with
    | some n, some r => some (n :: r)
    | _, _ => none
def pB2s : List PA → PHeap → PR
  | [.v (.s (.slice b o len es c))], h => match srcP h 1 (.slice b o len es c) with
    | some (l, _) => match bytesP l with
      | some l => some (.v (.s (.str l)), h)
      | none => none
    | none => none
  | [.v (.s (.lst es l c))], h => match srcP h 1 (.lst es l c) with
    | some (l, _) => match bytesP l with
      | some l => some (.v (.s (.str l)), h)
      | none => none
    | none => none
  | [.v (.s .nils)], h => some (.v (.s (.str [])), h)
  | _, _ => none
def pMkfunc (f n : Nat) (xs : List PA) (h : PHeap) : PR :=
  match ptrsP xs with
  | some l => some (.v (.s (.func f (l.take n) (l.drop n))), h)
  | none => none
def pMkmap : List PA → PHeap → PR
  | [], h => some (.v (.s (.map h.next)), h.new (.map []))
  | [.v (.s (.int _ _))], h => some (.v (.s (.map h.next)), h.new (.map []))
  | _, _ => none
def pMkslice (es bytes : Nat) (zero : List SV) : List PA → PHeap → PR
  | [.v (.s (.int _ l)), .v (.s (.int _ c))], h =>
    match ofSVs zero with
    | some z =>
      if 0 ≤ l ∧ l ≤ c ∧ c ≤ 1099511627776 ∧ Nat.ble (bytes * c.toNat) 281474976710656 then
        some (.v (.s (.slice h.next 0 l.toNat es (some c.toNat))), h.new (.cells (replP z c.toNat))) else none
    | none => none
  | _, _ => none
def pSlice (k : SlK) (lo hi mx : Bool) : List PA → PHeap → PR
  | x :: xs, h => match optP lo hi mx xs with
    | some bs => match k, x with
      | .str, .v (.s (.str l)) => if mx then none else (match bounds l.length (some l.length) bs with
        | some (a, b, _) => some (.v (.s (.str ((l.drop a).take b))), h)
        | none => none)
      | .slice es, .v (.s x) => noPS h (sliceP es x bs)
      | .arr n es, .v (.s (.ptr b o)) => noPS h (sliceP es (.slice b o n es (some n)) bs)
      | _, _ => none
    | none => none
  | _, _ => none
def pFaddr (off : Nat) : List PA → PHeap → PR
  | [.v (.s (.ptr b o))], h => some (.v (.s (.ptr b (o + off))), h)
  | [.v (.s (.rp l))], h => if off ≤ l.length then some (.v (.s (.rp (l.drop off))), h) else none
  | _, _ => none
def pField (off : Nat) (n : Option Nat) : List PA → PHeap → PR
  | [.v (.agg cs)], h => noP h (partP cs off n)
  | _, _ => none
def pIarr (n es : Nat) : List PA → PHeap → PR
  | [.v (.s (.ptr b o)), .v (.s (.int _ i))], h => if 0 ≤ i ∧ i < (n : Int) then some (.v (.s (.ptr b (o + i.toNat * es))), h) else none
  | [.v (.s (.rp l)), .v (.s (.int _ i))], h => if 0 ≤ i ∧ i < (n : Int) ∧ i.toNat * es ≤ l.length then some (.v (.s (.rp (l.drop (i.toNat * es)))), h) else none
  | _, _ => none
def pIsl (es : Nat) : List PA → PHeap → PR
  | [.v (.s (.slice b o len es' _)), .v (.s (.int _ i))], h => if es = es' ∧ 0 ≤ i ∧ i < (len : Int) then some (.v (.s (.ptr b (o + i.toNat * es))), h) else none
  | [.v (.s (.lst es' l _)), .v (.s (.int _ i))], h => if es = es' ∧ 0 ≤ i then (match l[i.toNat]? with
      | some e => some (.v (.s (.rp e)), h)
      | none => none) else none
  | _, _ => none
def pIdx (n es : Nat) (m : Option Nat) : List PA → PHeap → PR
  | [.v (.agg cs), .v (.s (.int _ i))], h => if 0 ≤ i ∧ i < (n : Int) then noP h (partP cs (i.toNat * es) m) else none
  | _, _ => none
def pSidx : List PA → PHeap → PR
  | [.v (.s (.str l)), .v (.s (.int _ i))], h => if 0 ≤ i then (match l[i.toNat]? with
      | some n => some (.v (.s (.int .u8 (n : Nat))), h)
      | none => none) else none
  | _, _ => none
def pLookup (ks : KeyK) (zero : CV) (ok : Bool) : List PA → PHeap → PR
  | [.v (.s .nilm), .v k], h => match ofCV zero with
    | some z => if keyFitsP ks k then some (if ok then .tup [z, .s (.bool false)] else .v z, h) else none
    | none => none
  | [.v (.s (.map b)), .v k], h => match ofCV zero with
    | some z => if keyFitsP ks k then (match h.get b with
      | some ⟨.map l, _, _, _, _⟩ => match findP ks k l with
        | some r => some (if ok then .tup [r.getD z, .s (.bool r.isSome)] else .v (r.getD z), h)
        | none => none
      | _ => none) else none
    | none => none
  | _, _ => none
def pMapset (ks : KeyK) : List PA → PHeap → PR
  | [.v (.s (.map b)), .v k, .v v], h => if keyFitsP ks k then (match h.get b with
    | some ⟨.map l, true, false, [], log⟩ => match setP ks k v l with
      | some l => some (.unit, h.upd b (some ⟨.map l, true, false, [], (0, 0) :: log⟩))
      | none => none
    | _ => none) else none
  | _, _ => none
def pExtract (i : Nat) : List PA → PHeap → PR
  | [.tup xs], h => noP h xs[i]?
  | _, _ => none
def pLens : List PA → PHeap → PR
  | [.v (.s (.slice _ _ len _ _))], h => some (.int .i64 (len : Nat), h)
  | [.v (.s (.lst _ l _))], h => some (.int .i64 (l.length : Nat), h)
  | [.v (.s .nils)], h => some (.int .i64 (0 : Nat), h)
  | _, _ => none
def pLenstr : List PA → PHeap → PR
  | [.v (.s (.str l))], h => some (.int .i64 (l.length : Nat), h)
  | _, _ => none
def pLenarr (n : Nat) : List PA → PHeap → PR
  | [_], h => some (.int .i64 (n : Nat), h)
  | _, _ => none
def pLenm : List PA → PHeap → PR
  | [.v (.s .nilm)], h => some (.int .i64 (0 : Nat), h)
  | [.v (.s (.map b))], h => match h.get b with
    | some ⟨.map l, _, _, _, _⟩ => some (.int .i64 (l.length : Nat), h)
    | _ => none
  | _, _ => none
def pCap : List PA → PHeap → PR
  | [.v (.s (.slice _ _ _ _ (some c)))], h => some (.int .i64 (c : Nat), h)
  | [.v (.s (.lst _ _ (some c)))], h => some (.int .i64 (c : Nat), h)
  | [.v (.s .nils)], h => some (.int .i64 (0 : Nat), h)
  | _, _ => none
def pMinmax (m : Bool) : List PA → PHeap → PR
  | .v (.s (.int k x)) :: xs, h => noPS h (minmaxP m k x xs)
  | _, _ => none
def pAppend (es bytes : Nat) : List PA → PHeap → PR
  | [.v (.s s), .v (.s x)], h => match srcP h es x with
    | some (new, n) => match appendP h es bytes s new n with
      | some (s, h) => some (.v (.s s), h)
      | none => none
    | none => none
  | _, _ => none
def pCopy (es : Nat) : List PA → PHeap → PR
  | [.v (.s d), .v (.s x)], h => match srcP h es x with
    | some (src, n) => match d with
      | .nils => some (.int .i64 (0 : Nat), h)
      | .slice b o len es' _ => if es = es' then
          (if min n len = 0 then some (.int .i64 (0 : Nat), h) else
          match h.write b o (src.take (min n len * es)) with
          | some h => some (.int .i64 (min n len : Nat), h)
          | none => none) else none
      | _ => none
    | none => none
  | _, _ => none
def pMrange : List PA → PHeap → PR
  | [.v (.s (.map b))], h => match h.get b with
    | some ⟨.map l, _, _, _, _⟩ => if l.length ≤ 1 then some (.v (.s (.ptr h.next 0)), h.new (.iter b l.length 0)) else none
    | _ => none
  | _, _ => none
def pMnext : List PA → PHeap → PR
  | [.v (.s (.ptr i 0))], h => match h.get i with
    | some ⟨.iter b n st, true, false, [], log⟩ => match h.get b with
      | some ⟨.map l, _, _, _, _⟩ => if l.length = n then (match st, l with
        | 0, [(k, v)] => some (.tup [.s (.bool true), k, v], h.upd i (some ⟨.iter b n 1, true, false, [], (0, 0) :: log⟩))
        | 0, [] => some (.tup [.s (.bool false)], h)
        | _ + 1, [_] => some (.tup [.s (.bool false)], h)
        | _, _ => none) else none
      | _ => none
    | _ => none
  | _, _ => none
def pMentry : List PA → PHeap → PR
  | [.v (.s (.ptr i 0))], h => match h.get i with
    | some ⟨.iter b n 1, _, _, _, _⟩ => match h.get b with
      | some ⟨.map [(k, v)], _, _, _, _⟩ => if n = 1 then some (.tup [k, v], h) else none
      | _ => none
    | _ => none
  | _, _ => none
def opP (op : VOp) (args : List PA) (h : PHeap) : PR :=
  match op with
  | .mov => pMov args h
  | .pick => pPick args h
  | .newz zs => pNewz zs args h
  | .box n => pBox n args h
  | .build z p => pBuild z p args h
  | .bslice es len z p => pBslice es len z p args h
  | .load1 => pLoad1 args h
  | .loadn n => pLoadn n args h
  | .store n => pStore n args h
  | .nilchk => pNilchk args h
  | .bin b => pBin b args h
  | .eq neg k => pEq neg k args h
  | .un u => pUn u args h
  | .conv k => pConv k args h
  | .s2b => pS2b args h
  | .b2s => pB2s args h
  | .mkfunc f n => pMkfunc f n args h
  | .mkmap => pMkmap args h
  | .mkslice es by' z => pMkslice es by' z args h
  | .slice k lo hi mx => pSlice k lo hi mx args h
  | .faddr off => pFaddr off args h
  | .field off n => pField off n args h
  | .iarr n es => pIarr n es args h
  | .isl es => pIsl es args h
  | .idx n es m => pIdx n es m args h
  | .sidx => pSidx args h
  | .lookup ks z ok => pLookup ks z ok args h
  | .mapset ks => pMapset ks args h
  | .extract i => pExtract i args h
  | .lens => pLens args h
  | .lenstr => pLenstr args h
  | .lenarr n => pLenarr n args h
  | .lenm => pLenm args h
  | .cap => pCap args h
  | .minmax m => pMinmax m args h
  | .append es by' => pAppend es by' args h
  | .copy es => pCopy es args h
  | .mrange => pMrange args h
  | .mnext => pMnext args h
  | .mentry => pMentry args h
  | .srange => none
  | .snext => none
  | .bad => none
end Go.Pv
end
section
namespace Go.Pv
open Go.Vm
open Go.Vm.Key (kn)
abbrev PFr := Tr PA
def evalP (fr : PFr) : VX → Option PA
  | .t k => fr.get k
  | .c v => ofAV v
def fetchP (fr : PFr) : List VX → Option (List PA)
  | [] => some []
  | x :: l => match evalP fr x with
    | some v => match fetchP fr l with
      | some vs => some (v :: vs)
      | none => none
    | none => none
def putP (fr : PFr) : Option Key → PA → PFr
  | some k, v => fr.upd k (some v)
  | none, _ => fr
def wantedP (fr : PFr) : Option (Key × Bool) → Option Bool
  | none => some true
  | some (k, b) => match fr.get k with
    | some (.v (.s (.bool c))) => some (c == b)
    | some _ => some false
    | none => none
abbrev PCaller := Nat → List PA → PHeap → Option (PA × PHeap)
def ptrAs (l : List (Key × Nat)) : List PA := l.map fun p => PA.v (.s (.ptr p.1 p.2))
def actP (call : PCaller) (a : VAct) (args : List PA) (h : PHeap) : Option (PA × PHeap) :=
  match a with
  | .op o => opP o args h
  | .call f => call f args h
  | .callv => match args with
    | .v (.s (.func f fs cs)) :: xs => call f (ptrAs fs ++ xs ++ ptrAs cs) h
    | _ => none
def operP (call : PCaller) (o : VOper) (fr : PFr) (h : PHeap) : Option (PFr × PHeap) :=
  match wantedP fr o.guard with
  | some true => match fetchP fr o.args with
    | some args => match actP call o.act args h with
      | some (v, h) => some (putP fr o.dst v, h)
      | none => none
    | none => none
  | some false => some (putP fr o.dst .unit, h)
  | none => none
def opsP (call : PCaller) : List VOper → PFr → PHeap → Option (PFr × PHeap)
  | [], fr, h => some (fr, h)
  | o :: l, fr, h => match operP call o fr h with
    | some (fr, h) => opsP call l fr h
    | none => none
def rdP : VOp → List PA → Option (Key × Option (Nat × Nat))
  | .load1, .v (.s (.ptr b o)) :: _ => some (b, some (o, 1))
  | .loadn n, .v (.s (.ptr b o)) :: _ => if n = 0 then none else some (b, some (o, n))
  | .lookup .., .v (.s (.map b)) :: _ => some (b, none)
  | .lenm, .v (.s (.map b)) :: _ => some (b, none)
  | _, _ => none
def rdF : VOp → List PA → Bool
  | .load1, .v (.s (.rp _)) :: _ => true
  | .loadn _, .v (.s (.rp _)) :: _ => true
  | _, _ => false
def blindP : VOp → Bool
  | .mov | .pick | .build .. | .nilchk | .bin _ | .eq .. | .un _ | .conv _ | .mkfunc .. | .slice .. | .faddr _ | .field .. | .iarr .. | .isl _ | .idx .. | .sidx
  | .extract _ | .lens | .lenstr | .lenarr _ | .cap | .minmax _ | .srange | .snext | .bad => true
  | _ => false
abbrev Snaps := List (PHeap × List Key)
def keptArgs (ws : List Key) : List VX → Bool
  | [] => true
  | .t k :: l => !ws.contains k && keptArgs ws l
  | .c _ :: l => keptArgs ws l
def apartP (o n : Nat) : List (Nat × Nat) → Bool
  | [] => true
  | (p, m) :: l => (Nat.ble (p + m) o || Nat.ble (o + n) p) && apartP o n l
def sameRd (rd : Option (Key × Option (Nat × Nat))) (g h : PHeap) : Bool :=
  match rd with
  | some (b, r) => (match g.get b, h.get b with
    | some x, some y => (match r with
      | some (o, n) => apartP o n (y.log.take (y.log.length - x.log.length))
      | none => Nat.beq y.log.length x.log.length)
    | _, _ => false)
  | none => true
def sameP (xs : List VX) (rd : Option (Key × Option (Nat × Nat))) (rf : Bool) (h : PHeap) : Snaps → Bool
  | [] => true
  | (g, ws) :: l => (!rf || keptArgs ws xs) && sameRd rd g h && sameP xs rd rf h l
def wrote (d : Option Key) (s : Snaps) : Snaps :=
  match d with
  | some k => s.map fun p => (p.1, k :: p.2)
  | none => s
def wroteQ (d : Option Key) (xs : List VX) (rd : Option (Key × Option (Nat × Nat))) (h : PHeap) : Snaps → Snaps
  | [] => []
  | (g, ws) :: l => (g, match d with
    | some k => if keptArgs ws xs && sameRd rd g h then ws else k :: ws
    | none => ws) :: wroteQ d xs rd h l
def outsideP (lo hi : Key) : Option (Key × Option (Nat × Nat)) → Bool
  | some (b, _) => Nat.blt b.toNat lo.toNat || Nat.ble hi.toNat b.toNat
  | none => true
def noFrz (h : PHeap) : Key → Nat → Bool
  | _, 0 => true
  | k, n + 1 => (match h.get k with
    | some x => !x.frz
    | none => true) && noFrz h k.succ n
def drawnP (call : PCaller) (lo hi : Key) (n : Nat) : List DOp → Key → Snaps → PFr → PHeap → Option (PFr × PHeap)
  | [], _, _, fr, h => some (fr, h)
  | d :: l, r, snaps, fr, h =>
    match d.o.act.kind with
    | .effect => match operP call d.o fr h with
      | some (fr', h') => drawnP call lo hi n l r (wrote d.o.dst (snaps ++ [(h, [])])) fr' h'
      | none => none
    | .alloc => match operP call d.o fr { h with next := r } with
      | some (fr', h') => drawnP call lo hi n l r.succ (wrote d.o.dst snaps) fr' { h' with next := h.next }
      | none => none
    | .quiet => match wantedP fr d.o.guard, d.o.act with
      | some true, .op o => match fetchP fr d.o.args with
        | some args => match opP o args h with
          | some (v, _) =>
            if outsideP lo hi (rdP o args) && (!rdF o args || noFrz h lo n) && sameP d.o.args (rdP o args) (rdF o args) h (snaps.drop d.chk) then
              drawnP call lo hi n l r (wroteQ d.o.dst d.o.args (rdP o args) h snaps) (putP fr d.o.dst v) h
            else none
          | none => none
        | none => none
      | some false, _ => drawnP call lo hi n l r snaps (putP fr d.o.dst .unit) h
      | _, _ => none
def resultP (fr : PFr) (h : PHeap) : VRes → Option PC
  | .tmp k => match fr.get k with
    | some (.v x) => some x
    | _ => none
  | .cell1 k => match fr.get k with
    | some (.v (.s (.ptr b o))) => match h.read b o 1 with
      | some [x] => some (.s x)
      | _ => none
    | _ => none
  | .celln k n => match fr.get k with
    | some (.v (.s (.ptr b o))) => match h.read b o n with
      | some l => some (.agg l)
      | none => none
    | _ => none
def resultsP (fr : PFr) (h : PHeap) : List VRes → Option (List PC)
  | [] => some []
  | r :: l => match resultP fr h r with
    | some x => match resultsP fr h l with
      | some xs => some (x :: xs)
      | none => none
    | none => none
def oneOrTupP : List PC → PA
  | [x] => .v x
  | l => .tup l
def chunk (es : Nat) : Nat → List PV → List (List PV)
  | 0, _ => []
  | n + 1, l => l.take es :: chunk es n (l.drop es)
def frzV : Nat → PV → PHeap → Option (PV × PHeap)
  | 0, _, _ => none
  | n + 1, v, h => match v with
    | .bool b => some (.bool b, h)
    | .int k x => some (.int k x, h)
    | .str l => some (.str l, h)
    | .nilp => some (.nilp, h)
    | .nils => some (.nils, h)
    | .nilm => some (.nilm, h)
    | .nilf => some (.nilf, h)
    | .func f [] [] => some (.func f [] [], h)
    | .lst es l _ => some (.lst es l none, h)
    | .rp l => some (.rp l, h)
    | .slice b o len es cap =>
      if capFits len cap = false then none else
      if len * es = 0 then some (.lst es (chunk es len []) none, h) else
      match h.get b with
      | some ⟨.cells c, own, frz, anc, log⟩ =>
        if o + len * es ≤ c.length then
          match frzVs (frzV n) ((c.drop o).take (len * es)) (if frz then h else h.upd b (some ⟨.cells c, own, true, anc, log⟩)) with
          | some (l, h) => some (.lst es (chunk es len l) none, h)
          | none => none
        else none
      | _ => none
    | _ => none
where
  frzVs (f : PV → PHeap → Option (PV × PHeap)) : List PV → PHeap → Option (List PV × PHeap)
    | [], h => some ([], h)
    | x :: l, h => match f x h with
      | some (y, h) => match frzVs f l h with
        | some (ys, h) => some (y :: ys, h)
        | none => none
      | none => none
def frzC (n : Nat) (v : PC) (h : PHeap) : Option (PC × PHeap) :=
  match v with
  | .s x => match frzV n x h with
    | some (y, h) => some (.s y, h)
    | none => none
  | .agg cs => match frzV.frzVs (frzV n) cs h with
    | some (l, h) => some (.agg l, h)
    | none => none
def frzCs (n : Nat) : List PC → PHeap → Option (List PC × PHeap)
  | [], h => some ([], h)
  | x :: l, h => match frzC n x h with
    | some (y, h) => match frzCs n l h with
      | some (ys, h) => some (y :: ys, h)
      | none => none
    | none => none
def frzA (n : Nat) (v : PA) (h : PHeap) : Option (PA × PHeap) :=
  match v with
  | .v x => match frzC n x h with
    | some (y, h) => some (.v y, h)
    | none => none
  | .tup xs => match frzCs n xs h with
    | some (ys, h) => some (.tup ys, h)
    | none => none
def frzAs (n : Nat) : List PA → PHeap → Option (List PA × PHeap)
  | [], h => some ([], h)
  | x :: l, h => match frzA n x h with
    | some (y, h) => match frzAs n l h with
      | some (ys, h) => some (y :: ys, h)
      | none => none
    | none => none
def deep : Nat := 40
structure Known where
  pure : Nat → Bool
  ans : Nat → List PA → Option PA
def bodyP (F : Funcs) (ex : VCode → PFr → PHeap → Option (VExit × PFr × PHeap)) : PCaller := fun f args h =>
  match F f with
  | some vf => match ex vf.body (Tr.z.putFrom 0 args) h with
    | some (.exit _, _, _) => none
    | some (_, fr, h) => match resultsP fr h vf.results with
      | some l => some (oneOrTupP l, h)
      | none => none
    | none => none
  | none => none
def aloneP (F : Funcs) (ex : VCode → PFr → PHeap → Option (VExit × PFr × PHeap)) (f : Nat) (xs : List PA) : Option PA :=
  match bodyP F ex f xs .empty with
  | some (r, g) => match frzA deep r g with
    | some (r, _) => some r
    | none => none
  | none => none
def callP (F : Funcs) (K : Known) (ex : VCode → PFr → PHeap → Option (VExit × PFr × PHeap)) : PCaller := fun f args h =>
  if K.pure f then
    match frzAs deep args h with
    | some (xs, h) => match K.ans f xs with
      | some r => some (r, h)
      | none => match aloneP F ex f xs with
        | some r => some (r, h)
        | none => none
    | none => none
  else bodyP F ex f args h
def execP (F : Funcs) (K : Known) : Nat → VCode → PFr → PHeap → Option (VExit × PFr × PHeap)
  | 0, _, _, _ => none
  | n + 1, c, fr, h => match c with
    | .skip => some (.normal, fr, h)
    | .region ops => match opsP (callP F K (execP F K n)) ops fr h with
      | some (fr, h) => some (.normal, fr, h)
      | none => none
    | .drawn ops =>
      match drawnP (callP F K (execP F K n)) h.next (succs h.next (nAlloc ops)) (nAlloc ops) ops h.next [] fr { h with next := succs h.next (nAlloc ops) } with
      | some (fr, h) => some (.normal, fr, h)
      | none => none
    | .seq a b => match execP F K n a fr h with
      | some (.normal, fr, h) => execP F K n b fr h
      | r => r
    | .cond c a b => match evalP fr c with
      | some (.v (.s (.bool true))) => execP F K n a fr h
      | some (.v (.s (.bool false))) => execP F K n b fr h
      | _ => none
    | .block id c => match execP F K n c fr h with
      | some (.exit j, fr, h) => if j = id then some (.normal, fr, h) else some (.exit j, fr, h)
      | r => r
    | .loop c => match execP F K n c fr h with
      | some (.normal, fr, h) => execP F K n (.loop c) fr h
      | r => r
    | .exit id => some (.exit id, fr, h)
    | .ret => some (.ret, fr, h)
def runP (F : Funcs) (K : Known) (n : Nat) (f : Nat) (xs : List PA) : Option PA := aloneP F (execP F K n) f xs
end Go.Pv
end
section
namespace Go.Pv.K
open Go.Vm
open Go.Vm.Key (kn)
theorem ff {p : Prop} (e : false = true) : p := by cases e
structure Row where
  mk ::
  (a0 a1 a2 a3 a4 a5 a6 a7 a8 a9 a10 a11 a12 a13 a14 a15 : Option PA)
structure Fr where
  mk ::
  (a0 a1 a2 a3 a4 a5 a6 a7 a8 a9 a10 a11 a12 a13 a14 a15 : Row)
namespace Row
def empty : Row := .mk none none none none none none none none none none none none none none none none
def get : Row → Nat → Option PA
  | .mk a0 a1 a2 a3 a4 a5 a6 a7 a8 a9 a10 a11 a12 a13 a14 a15, 0 => a0
  | .mk a0 a1 a2 a3 a4 a5 a6 a7 a8 a9 a10 a11 a12 a13 a14 a15, 1 => a1
  | .mk a0 a1 a2 a3 a4 a5 a6 a7 a8 a9 a10 a11 a12 a13 a14 a15, 2 => a2
  | .mk a0 a1 a2 a3 a4 a5 a6 a7 a8 a9 a10 a11 a12 a13 a14 a15, 3 => a3
  | .mk a0 a1 a2 a3 a4 a5 a6 a7 a8 a9 a10 a11 a12 a13 a14 a15, 4 => a4
  | .mk a0 a1 a2 a3 a4 a5 a6 a7 a8 a9 a10 a11 a12 a13 a14 a15, 5 => a5
  | .mk a0 a1 a2 a3 a4 a5 a6 a7 a8 a9 a10 a11 a12 a13 a14 a15, 6 => a6
  | .mk a0 a1 a2 a3 a4 a5 a6 a7 a8 a9 a10 a11 a12 a13 a14 a15, 7 => a7
  | .mk a0 a1 a2 a3 a4 a5 a6 a7 a8 a9 a10 a11 a12 a13 a14 a15, 8 => a8
  | .mk a0 a1 a2 a3 a4 a5 a6 a7 a8 a9 a10 a11 a12 a13 a14 a15, 9 => a9
  | .mk a0 a1 a2 a3 a4 a5 a6 a7 a8 a9 a10 a11 a12 a13 a14 a15, 10 => a10
  | .mk a0 a1 a2 a3 a4 a5 a6 a7 a8 a9 a10 a11 a12 a13 a14 a15, 11 => a11
  | .mk a0 a1 a2 a3 a4 a5 a6 a7 a8 a9 a10 a11 a12 a13 a14 a15, 12 => a12
  | .mk a0 a1 a2 a3 a4 a5 a6 a7 a8 a9 a10 a11 a12 a13 a14 a15, 13 => a13
  | .mk a0 a1 a2 a3 a4 a5 a6 a7 a8 a9 a10 a11 a12 a13 a14 a15, 14 => a14
  | .mk a0 a1 a2 a3 a4 a5 a6 a7 a8 a9 a10 a11 a12 a13 a14 a15, 15 => a15
  | _, _ => none
def set : Row → Nat → PA → Row
  | .mk a0 a1 a2 a3 a4 a5 a6 a7 a8 a9 a10 a11 a12 a13 a14 a15, 0, v => .mk (some v) a1 a2 a3 a4 a5 a6 a7 a8 a9 a10 a11 a12 a13 a14 a15
  | .mk a0 a1 a2 a3 a4 a5 a6 a7 a8 a9 a10 a11 a12 a13 a14 a15, 1, v => .mk a0 (some v) a2 a3 a4 a5 a6 a7 a8 a9 a10 a11 a12 a13 a14 a15
  | .mk a0 a1 a2 a3 a4 a5 a6 a7 a8 a9 a10 a11 a12 a13 a14 a15, 2, v => .mk a0 a1 (some v) a3 a4 a5 a6 a7 a8 a9 a10 a11 a12 a13 a14 a15
  | .mk a0 a1 a2 a3 a4 a5 a6 a7 a8 a9 a10 a11 a12 a13 a14 a15, 3, v => .mk a0 a1 a2 (some v) a4 a5 a6 a7 a8 a9 a10 a11 a12 a13 a14 a15
  | .mk a0 a1 a2 a3 a4 a5 a6 a7 a8 a9 a10 a11 a12 a13 a14 a15, 4, v => .mk a0 a1 a2 a3 (some v) a5 a6 a7 a8 a9 a10 a11 a12 a13 a14 a15
  | .mk a0 a1 a2 a3 a4 a5 a6 a7 a8 a9 a10 a11 a12 a13 a14 a15, 5, v => .mk a0 a1 a2 a3 a4 (some v) a6 a7 a8 a9 a10 a11 a12 a13 a14 a15
  | .mk a0 a1 a2 a3 a4 a5 a6 a7 a8 a9 a10 a11 a12 a13 a14 a15, 6, v => .mk a0 a1 a2 a3 a4 a5 (some v) a7 a8 a9 a10 a11 a12 a13 a14 a15
  | .mk a0 a1 a2 a3 a4 a5 a6 a7 a8 a9 a10 a11 a12 a13 a14 a15, 7, v => .mk a0 a1 a2 a3 a4 a5 a6 (some v) a8 a9 a10 a11 a12 a13 a14 a15
  | .mk a0 a1 a2 a3 a4 a5 a6 a7 a8 a9 a10 a11 a12 a13 a14 a15, 8, v => .mk a0 a1 a2 a3 a4 a5 a6 a7 (some v) a9 a10 a11 a12 a13 a14 a15
  | .mk a0 a1 a2 a3 a4 a5 a6 a7 a8 a9 a10 a11 a12 a13 a14 a15, 9, v => .mk a0 a1 a2 a3 a4 a5 a6 a7 a8 (some v) a10 a11 a12 a13 a14 a15
  | .mk a0 a1 a2 a3 a4 a5 a6 a7 a8 a9 a10 a11 a12 a13 a14 a15, 10, v => .mk a0 a1 a2 a3 a4 a5 a6 a7 a8 a9 (some v) a11 a12 a13 a14 a15
  | .mk a0 a1 a2 a3 a4 a5 a6 a7 a8 a9 a10 a11 a12 a13 a14 a15, 11, v => .mk a0 a1 a2 a3 a4 a5 a6 a7 a8 a9 a10 (some v) a12 a13 a14 a15
  | .mk a0 a1 a2 a3 a4 a5 a6 a7 a8 a9 a10 a11 a12 a13 a14 a15, 12, v => .mk a0 a1 a2 a3 a4 a5 a6 a7 a8 a9 a10 a11 (some v) a13 a14 a15
  | .mk a0 a1 a2 a3 a4 a5 a6 a7 a8 a9 a10 a11 a12 a13 a14 a15, 13, v => .mk a0 a1 a2 a3 a4 a5 a6 a7 a8 a9 a10 a11 a12 (some v) a14 a15
  | .mk a0 a1 a2 a3 a4 a5 a6 a7 a8 a9 a10 a11 a12 a13 a14 a15, 14, v => .mk a0 a1 a2 a3 a4 a5 a6 a7 a8 a9 a10 a11 a12 a13 (some v) a15
  | .mk a0 a1 a2 a3 a4 a5 a6 a7 a8 a9 a10 a11 a12 a13 a14 a15, 15, v => .mk a0 a1 a2 a3 a4 a5 a6 a7 a8 a9 a10 a11 a12 a13 a14 (some v)
  | r, _, _ => r
end Row
namespace Fr
def empty : Fr := .mk .empty .empty .empty .empty .empty .empty .empty .empty .empty .empty .empty .empty .empty .empty .empty .empty
def get : Fr → Nat → Row
  | .mk a0 a1 a2 a3 a4 a5 a6 a7 a8 a9 a10 a11 a12 a13 a14 a15, 0 => a0
  | .mk a0 a1 a2 a3 a4 a5 a6 a7 a8 a9 a10 a11 a12 a13 a14 a15, 1 => a1
  | .mk a0 a1 a2 a3 a4 a5 a6 a7 a8 a9 a10 a11 a12 a13 a14 a15, 2 => a2
  | .mk a0 a1 a2 a3 a4 a5 a6 a7 a8 a9 a10 a11 a12 a13 a14 a15, 3 => a3
  | .mk a0 a1 a2 a3 a4 a5 a6 a7 a8 a9 a10 a11 a12 a13 a14 a15, 4 => a4
  | .mk a0 a1 a2 a3 a4 a5 a6 a7 a8 a9 a10 a11 a12 a13 a14 a15, 5 => a5
  | .mk a0 a1 a2 a3 a4 a5 a6 a7 a8 a9 a10 a11 a12 a13 a14 a15, 6 => a6
  | .mk a0 a1 a2 a3 a4 a5 a6 a7 a8 a9 a10 a11 a12 a13 a14 a15, 7 => a7
  | .mk a0 a1 a2 a3 a4 a5 a6 a7 a8 a9 a10 a11 a12 a13 a14 a15, 8 => a8
  | .mk a0 a1 a2 a3 a4 a5 a6 a7 a8 a9 a10 a11 a12 a13 a14 a15, 9 => a9
  | .mk a0 a1 a2 a3 a4 a5 a6 a7 a8 a9 a10 a11 a12 a13 a14 a15, 10 => a10
  | .mk a0 a1 a2 a3 a4 a5 a6 a7 a8 a9 a10 a11 a12 a13 a14 a15, 11 => a11
  | .mk a0 a1 a2 a3 a4 a5 a6 a7 a8 a9 a10 a11 a12 a13 a14 a15, 12 => a12
  | .mk a0 a1 a2 a3 a4 a5 a6 a7 a8 a9 a10 a11 a12 a13 a14 a15, 13 => a13
  | .mk a0 a1 a2 a3 a4 a5 a6 a7 a8 a9 a10 a11 a12 a13 a14 a15, 14 => a14
  | .mk a0 a1 a2 a3 a4 a5 a6 a7 a8 a9 a10 a11 a12 a13 a14 a15, 15 => a15
  | _, _ => .empty
def set : Fr → Nat → Row → Fr
  | .mk a0 a1 a2 a3 a4 a5 a6 a7 a8 a9 a10 a11 a12 a13 a14 a15, 0, v => .mk v a1 a2 a3 a4 a5 a6 a7 a8 a9 a10 a11 a12 a13 a14 a15
  | .mk a0 a1 a2 a3 a4 a5 a6 a7 a8 a9 a10 a11 a12 a13 a14 a15, 1, v => .mk a0 v a2 a3 a4 a5 a6 a7 a8 a9 a10 a11 a12 a13 a14 a15
  | .mk a0 a1 a2 a3 a4 a5 a6 a7 a8 a9 a10 a11 a12 a13 a14 a15, 2, v => .mk a0 a1 v a3 a4 a5 a6 a7 a8 a9 a10 a11 a12 a13 a14 a15
  | .mk a0 a1 a2 a3 a4 a5 a6 a7 a8 a9 a10 a11 a12 a13 a14 a15, 3, v => .mk a0 a1 a2 v a4 a5 a6 a7 a8 a9 a10 a11 a12 a13 a14 a15
  | .mk a0 a1 a2 a3 a4 a5 a6 a7 a8 a9 a10 a11 a12 a13 a14 a15, 4, v => .mk a0 a1 a2 a3 v a5 a6 a7 a8 a9 a10 a11 a12 a13 a14 a15
  | .mk a0 a1 a2 a3 a4 a5 a6 a7 a8 a9 a10 a11 a12 a13 a14 a15, 5, v => .mk a0 a1 a2 a3 a4 v a6 a7 a8 a9 a10 a11 a12 a13 a14 a15
  | .mk a0 a1 a2 a3 a4 a5 a6 a7 a8 a9 a10 a11 a12 a13 a14 a15, 6, v => .mk a0 a1 a2 a3 a4 a5 v a7 a8 a9 a10 a11 a12 a13 a14 a15
  | .mk a0 a1 a2 a3 a4 a5 a6 a7 a8 a9 a10 a11 a12 a13 a14 a15, 7, v => .mk a0 a1 a2 a3 a4 a5 a6 v a8 a9 a10 a11 a12 a13 a14 a15
  | .mk a0 a1 a2 a3 a4 a5 a6 a7 a8 a9 a10 a11 a12 a13 a14 a15, 8, v => .mk a0 a1 a2 a3 a4 a5 a6 a7 v a9 a10 a11 a12 a13 a14 a15
  | .mk a0 a1 a2 a3 a4 a5 a6 a7 a8 a9 a10 a11 a12 a13 a14 a15, 9, v => .mk a0 a1 a2 a3 a4 a5 a6 a7 a8 v a10 a11 a12 a13 a14 a15
  | .mk a0 a1 a2 a3 a4 a5 a6 a7 a8 a9 a10 a11 a12 a13 a14 a15, 10, v => .mk a0 a1 a2 a3 a4 a5 a6 a7 a8 a9 v a11 a12 a13 a14 a15
  | .mk a0 a1 a2 a3 a4 a5 a6 a7 a8 a9 a10 a11 a12 a13 a14 a15, 11, v => .mk a0 a1 a2 a3 a4 a5 a6 a7 a8 a9 a10 v a12 a13 a14 a15
  | .mk a0 a1 a2 a3 a4 a5 a6 a7 a8 a9 a10 a11 a12 a13 a14 a15, 12, v => .mk a0 a1 a2 a3 a4 a5 a6 a7 a8 a9 a10 a11 v a13 a14 a15
  | .mk a0 a1 a2 a3 a4 a5 a6 a7 a8 a9 a10 a11 a12 a13 a14 a15, 13, v => .mk a0 a1 a2 a3 a4 a5 a6 a7 a8 a9 a10 a11 a12 v a14 a15
  | .mk a0 a1 a2 a3 a4 a5 a6 a7 a8 a9 a10 a11 a12 a13 a14 a15, 14, v => .mk a0 a1 a2 a3 a4 a5 a6 a7 a8 a9 a10 a11 a12 a13 v a15
  | .mk a0 a1 a2 a3 a4 a5 a6 a7 a8 a9 a10 a11 a12 a13 a14 a15, 15, v => .mk a0 a1 a2 a3 a4 a5 a6 a7 a8 a9 a10 a11 a12 a13 a14 v
  | r, _, _ => r
end Fr
def rs0 (r : Row) : Option PA := r.a0
noncomputable def ru0 (r : Row) (v : PA) (k : Row → Bool) : Bool := @Row.rec (fun _ => Bool) (fun a0 a1 a2 a3 a4 a5 a6 a7 a8 a9 a10 a11 a12 a13 a14 a15 => k (.mk (some v) a1 a2 a3 a4 a5 a6 a7 a8 a9 a10 a11 a12 a13 a14 a15)) r
def fs0 (r : Fr) : Row := r.a0
noncomputable def fu0 (f : Row → (Row → Bool) → Bool) (r : Fr) (k : Fr → Bool) : Bool := @Fr.rec (fun _ => Bool) (fun a0 a1 a2 a3 a4 a5 a6 a7 a8 a9 a10 a11 a12 a13 a14 a15 => f a0 (fun v => k (.mk v a1 a2 a3 a4 a5 a6 a7 a8 a9 a10 a11 a12 a13 a14 a15))) r
def rs1 (r : Row) : Option PA := r.a1
noncomputable def ru1 (r : Row) (v : PA) (k : Row → Bool) : Bool := @Row.rec (fun _ => Bool) (fun a0 a1 a2 a3 a4 a5 a6 a7 a8 a9 a10 a11 a12 a13 a14 a15 => k (.mk a0 (some v) a2 a3 a4 a5 a6 a7 a8 a9 a10 a11 a12 a13 a14 a15)) r
def fs1 (r : Fr) : Row := r.a1
noncomputable def fu1 (f : Row → (Row → Bool) → Bool) (r : Fr) (k : Fr → Bool) : Bool := @Fr.rec (fun _ => Bool) (fun a0 a1 a2 a3 a4 a5 a6 a7 a8 a9 a10 a11 a12 a13 a14 a15 => f a1 (fun v => k (.mk a0 v a2 a3 a4 a5 a6 a7 a8 a9 a10 a11 a12 a13 a14 a15))) r
def rs2 (r : Row) : Option PA := r.a2
noncomputable def ru2 (r : Row) (v : PA) (k : Row → Bool) : Bool := @Row.rec (fun _ => Bool) (fun a0 a1 a2 a3 a4 a5 a6 a7 a8 a9 a10 a11 a12 a13 a14 a15 => k (.mk a0 a1 (some v) a3 a4 a5 a6 a7 a8 a9 a10 a11 a12 a13 a14 a15)) r
def fs2 (r : Fr) : Row := r.a2
noncomputable def fu2 (f : Row → (Row → Bool) → Bool) (r : Fr) (k : Fr → Bool) : Bool := @Fr.rec (fun _ => Bool) (fun a0 a1 a2 a3 a4 a5 a6 a7 a8 a9 a10 a11 a12 a13 a14 a15 => f a2 (fun v => k (.mk a0 a1 v a3 a4 a5 a6 a7 a8 a9 a10 a11 a12 a13 a14 a15))) r
def rs3 (r : Row) : Option PA := r.a3
noncomputable def ru3 (r : Row) (v : PA) (k : Row → Bool) : Bool := @Row.rec (fun _ => Bool) (fun a0 a1 a2 a3 a4 a5 a6 a7 a8 a9 a10 a11 a12 a13 a14 a15 => k (.mk a0 a1 a2 (some v) a4 a5 a6 a7 a8 a9 a10 a11 a12 a13 a14 a15)) r
def fs3 (r : Fr) : Row := r.a3
noncomputable def fu3 (f : Row → (Row → Bool) → Bool) (r : Fr) (k : Fr → Bool) : Bool := @Fr.rec (fun _ => Bool) (fun a0 a1 a2 a3 a4 a5 a6 a7 a8 a9 a10 a11 a12 a13 a14 a15 => f a3 (fun v => k (.mk a0 a1 a2 v a4 a5 a6 a7 a8 a9 a10 a11 a12 a13 a14 a15))) r
def rs4 (r : Row) : Option PA := r.a4
noncomputable def ru4 (r : Row) (v : PA) (k : Row → Bool) : Bool := @Row.rec (fun _ => Bool) (fun a0 a1 a2 a3 a4 a5 a6 a7 a8 a9 a10 a11 a12 a13 a14 a15 => k (.mk a0 a1 a2 a3 (some v) a5 a6 a7 a8 a9 a10 a11 a12 a13 a14 a15)) r
def fs4 (r : Fr) : Row := r.a4
noncomputable def fu4 (f : Row → (Row → Bool) → Bool) (r : Fr) (k : Fr → Bool) : Bool := @Fr.rec (fun _ => Bool) (fun a0 a1 a2 a3 a4 a5 a6 a7 a8 a9 a10 a11 a12 a13 a14 a15 => f a4 (fun v => k (.mk a0 a1 a2 a3 v a5 a6 a7 a8 a9 a10 a11 a12 a13 a14 a15))) r
def rs5 (r : Row) : Option PA := r.a5
noncomputable def ru5 (r : Row) (v : PA) (k : Row → Bool) : Bool := @Row.rec (fun _ => Bool) (fun a0 a1 a2 a3 a4 a5 a6 a7 a8 a9 a10 a11 a12 a13 a14 a15 => k (.mk a0 a1 a2 a3 a4 (some v) a6 a7 a8 a9 a10 a11 a12 a13 a14 a15)) r
def fs5 (r : Fr) : Row := r.a5
noncomputable def fu5 (f : Row → (Row → Bool) → Bool) (r : Fr) (k : Fr → Bool) : Bool := @Fr.rec (fun _ => Bool) (fun a0 a1 a2 a3 a4 a5 a6 a7 a8 a9 a10 a11 a12 a13 a14 a15 => f a5 (fun v => k (.mk a0 a1 a2 a3 a4 v a6 a7 a8 a9 a10 a11 a12 a13 a14 a15))) r
def rs6 (r : Row) : Option PA := r.a6
noncomputable def ru6 (r : Row) (v : PA) (k : Row → Bool) : Bool := @Row.rec (fun _ => Bool) (fun a0 a1 a2 a3 a4 a5 a6 a7 a8 a9 a10 a11 a12 a13 a14 a15 => k (.mk a0 a1 a2 a3 a4 a5 (some v) a7 a8 a9 a10 a11 a12 a13 a14 a15)) r
def fs6 (r : Fr) : Row := r.a6
noncomputable def fu6 (f : Row → (Row → Bool) → Bool) (r : Fr) (k : Fr → Bool) : Bool := @Fr.rec (fun _ => Bool) (fun a0 a1 a2 a3 a4 a5 a6 a7 a8 a9 a10 a11 a12 a13 a14 a15 => f a6 (fun v => k (.mk a0 a1 a2 a3 a4 a5 v a7 a8 a9 a10 a11 a12 a13 a14 a15))) r
def rs7 (r : Row) : Option PA := r.a7
noncomputable def ru7 (r : Row) (v : PA) (k : Row → Bool) : Bool := @Row.rec (fun _ => Bool) (fun a0 a1 a2 a3 a4 a5 a6 a7 a8 a9 a10 a11 a12 a13 a14 a15 => k (.mk a0 a1 a2 a3 a4 a5 a6 (some v) a8 a9 a10 a11 a12 a13 a14 a15)) r
def fs7 (r : Fr) : Row := r.a7
noncomputable def fu7 (f : Row → (Row → Bool) → Bool) (r : Fr) (k : Fr → Bool) : Bool := @Fr.rec (fun _ => Bool) (fun a0 a1 a2 a3 a4 a5 a6 a7 a8 a9 a10 a11 a12 a13 a14 a15 => f a7 (fun v => k (.mk a0 a1 a2 a3 a4 a5 a6 v a8 a9 a10 a11 a12 a13 a14 a15))) r
def rs8 (r : Row) : Option PA := r.a8
noncomputable def ru8 (r : Row) (v : PA) (k : Row → Bool) : Bool := @Row.rec (fun _ => Bool) (fun a0 a1 a2 a3 a4 a5 a6 a7 a8 a9 a10 a11 a12 a13 a14 a15 => k (.mk a0 a1 a2 a3 a4 a5 a6 a7 (some v) a9 a10 a11 a12 a13 a14 a15)) r
def fs8 (r : Fr) : Row := r.a8
noncomputable def fu8 (f : Row → (Row → Bool) → Bool) (r : Fr) (k : Fr → Bool) : Bool := @Fr.rec (fun _ => Bool) (fun a0 a1 a2 a3 a4 a5 a6 a7 a8 a9 a10 a11 a12 a13 a14 a15 => f a8 (fun v => k (.mk a0 a1 a2 a3 a4 a5 a6 a7 v a9 a10 a11 a12 a13 a14 a15))) r
def rs9 (r : Row) : Option PA := r.a9
noncomputable def ru9 (r : Row) (v : PA) (k : Row → Bool) : Bool := @Row.rec (fun _ => Bool) (fun a0 a1 a2 a3 a4 a5 a6 a7 a8 a9 a10 a11 a12 a13 a14 a15 => k (.mk a0 a1 a2 a3 a4 a5 a6 a7 a8 (some v) a10 a11 a12 a13 a14 a15)) r
def fs9 (r : Fr) : Row := r.a9
noncomputable def fu9 (f : Row → (Row → Bool) → Bool) (r : Fr) (k : Fr → Bool) : Bool := @Fr.rec (fun _ => Bool) (fun a0 a1 a2 a3 a4 a5 a6 a7 a8 a9 a10 a11 a12 a13 a14 a15 => f a9 (fun v => k (.mk a0 a1 a2 a3 a4 a5 a6 a7 a8 v a10 a11 a12 a13 a14 a15))) r
def rs10 (r : Row) : Option PA := r.a10
noncomputable def ru10 (r : Row) (v : PA) (k : Row → Bool) : Bool := @Row.rec (fun _ => Bool) (fun a0 a1 a2 a3 a4 a5 a6 a7 a8 a9 a10 a11 a12 a13 a14 a15 => k (.mk a0 a1 a2 a3 a4 a5 a6 a7 a8 a9 (some v) a11 a12 a13 a14 a15)) r
def fs10 (r : Fr) : Row := r.a10
noncomputable def fu10 (f : Row → (Row → Bool) → Bool) (r : Fr) (k : Fr → Bool) : Bool := @Fr.rec (fun _ => Bool) (fun a0 a1 a2 a3 a4 a5 a6 a7 a8 a9 a10 a11 a12 a13 a14 a15 => f a10 (fun v => k (.mk a0 a1 a2 a3 a4 a5 a6 a7 a8 a9 v a11 a12 a13 a14 a15))) r
def rs11 (r : Row) : Option PA := r.a11
noncomputable def ru11 (r : Row) (v : PA) (k : Row → Bool) : Bool := @Row.rec (fun _ => Bool) (fun a0 a1 a2 a3 a4 a5 a6 a7 a8 a9 a10 a11 a12 a13 a14 a15 => k (.mk a0 a1 a2 a3 a4 a5 a6 a7 a8 a9 a10 (some v) a12 a13 a14 a15)) r
def fs11 (r : Fr) : Row := r.a11
noncomputable def fu11 (f : Row → (Row → Bool) → Bool) (r : Fr) (k : Fr → Bool) : Bool := @Fr.rec (fun _ => Bool) (fun a0 a1 a2 a3 a4 a5 a6 a7 a8 a9 a10 a11 a12 a13 a14 a15 => f a11 (fun v => k (.mk a0 a1 a2 a3 a4 a5 a6 a7 a8 a9 a10 v a12 a13 a14 a15))) r
def rs12 (r : Row) : Option PA := r.a12
noncomputable def ru12 (r : Row) (v : PA) (k : Row → Bool) : Bool := @Row.rec (fun _ => Bool) (fun a0 a1 a2 a3 a4 a5 a6 a7 a8 a9 a10 a11 a12 a13 a14 a15 => k (.mk a0 a1 a2 a3 a4 a5 a6 a7 a8 a9 a10 a11 (some v) a13 a14 a15)) r
def fs12 (r : Fr) : Row := r.a12
noncomputable def fu12 (f : Row → (Row → Bool) → Bool) (r : Fr) (k : Fr → Bool) : Bool := @Fr.rec (fun _ => Bool) (fun a0 a1 a2 a3 a4 a5 a6 a7 a8 a9 a10 a11 a12 a13 a14 a15 => f a12 (fun v => k (.mk a0 a1 a2 a3 a4 a5 a6 a7 a8 a9 a10 a11 v a13 a14 a15))) r
def rs13 (r : Row) : Option PA := r.a13
noncomputable def ru13 (r : Row) (v : PA) (k : Row → Bool) : Bool := @Row.rec (fun _ => Bool) (fun a0 a1 a2 a3 a4 a5 a6 a7 a8 a9 a10 a11 a12 a13 a14 a15 => k (.mk a0 a1 a2 a3 a4 a5 a6 a7 a8 a9 a10 a11 a12 (some v) a14 a15)) r
def fs13 (r : Fr) : Row := r.a13
noncomputable def fu13 (f : Row → (Row → Bool) → Bool) (r : Fr) (k : Fr → Bool) : Bool := @Fr.rec (fun _ => Bool) (fun a0 a1 a2 a3 a4 a5 a6 a7 a8 a9 a10 a11 a12 a13 a14 a15 => f a13 (fun v => k (.mk a0 a1 a2 a3 a4 a5 a6 a7 a8 a9 a10 a11 a12 v a14 a15))) r
def rs14 (r : Row) : Option PA := r.a14
noncomputable def ru14 (r : Row) (v : PA) (k : Row → Bool) : Bool := @Row.rec (fun _ => Bool) (fun a0 a1 a2 a3 a4 a5 a6 a7 a8 a9 a10 a11 a12 a13 a14 a15 => k (.mk a0 a1 a2 a3 a4 a5 a6 a7 a8 a9 a10 a11 a12 a13 (some v) a15)) r
def fs14 (r : Fr) : Row := r.a14
noncomputable def fu14 (f : Row → (Row → Bool) → Bool) (r : Fr) (k : Fr → Bool) : Bool := @Fr.rec (fun _ => Bool) (fun a0 a1 a2 a3 a4 a5 a6 a7 a8 a9 a10 a11 a12 a13 a14 a15 => f a14 (fun v => k (.mk a0 a1 a2 a3 a4 a5 a6 a7 a8 a9 a10 a11 a12 a13 v a15))) r
def rs15 (r : Row) : Option PA := r.a15
noncomputable def ru15 (r : Row) (v : PA) (k : Row → Bool) : Bool := @Row.rec (fun _ => Bool) (fun a0 a1 a2 a3 a4 a5 a6 a7 a8 a9 a10 a11 a12 a13 a14 a15 => k (.mk a0 a1 a2 a3 a4 a5 a6 a7 a8 a9 a10 a11 a12 a13 a14 (some v))) r
def fs15 (r : Fr) : Row := r.a15
noncomputable def fu15 (f : Row → (Row → Bool) → Bool) (r : Fr) (k : Fr → Bool) : Bool := @Fr.rec (fun _ => Bool) (fun a0 a1 a2 a3 a4 a5 a6 a7 a8 a9 a10 a11 a12 a13 a14 a15 => f a15 (fun v => k (.mk a0 a1 a2 a3 a4 a5 a6 a7 a8 a9 a10 a11 a12 a13 a14 v))) r
inductive RAcc where
  | mk (g : Row → Option PA) (p : Row → PA → (Row → Bool) → Bool)
inductive FAcc where
  | mk (g : Fr → Row) (p : (Row → (Row → Bool) → Bool) → Fr → (Fr → Bool) → Bool)
inductive Acc where
  | mk (g : Fr → Option PA) (p : PA → Fr → (Fr → Bool) → Bool)
noncomputable def racc : Nat → RAcc
  | 0 => .mk rs0 ru0
  | 1 => .mk rs1 ru1
  | 2 => .mk rs2 ru2
  | 3 => .mk rs3 ru3
  | 4 => .mk rs4 ru4
  | 5 => .mk rs5 ru5
  | 6 => .mk rs6 ru6
  | 7 => .mk rs7 ru7
  | 8 => .mk rs8 ru8
  | 9 => .mk rs9 ru9
  | 10 => .mk rs10 ru10
  | 11 => .mk rs11 ru11
  | 12 => .mk rs12 ru12
  | 13 => .mk rs13 ru13
  | 14 => .mk rs14 ru14
  | 15 => .mk rs15 ru15
  | _ => .mk (fun _ => none) (fun _ _ _ => false)
noncomputable def facc : Nat → FAcc
  | 0 => .mk fs0 fu0
  | 1 => .mk fs1 fu1
  | 2 => .mk fs2 fu2
  | 3 => .mk fs3 fu3
  | 4 => .mk fs4 fu4
  | 5 => .mk fs5 fu5
  | 6 => .mk fs6 fu6
  | 7 => .mk fs7 fu7
  | 8 => .mk fs8 fu8
  | 9 => .mk fs9 fu9
  | 10 => .mk fs10 fu10
  | 11 => .mk fs11 fu11
  | 12 => .mk fs12 fu12
  | 13 => .mk fs13 fu13
  | 14 => .mk fs14 fu14
  | 15 => .mk fs15 fu15
  | _ => .mk (fun _ => .empty) (fun _ _ _ => false)
noncomputable def acc (key : Key) : Acc :=
  @Bool.rec (fun _ => Acc) (.mk (fun _ => none) (fun _ _ _ => false))
    (@FAcc.rec (fun _ => Acc) (fun s m => @RAcc.rec (fun _ => Acc) (fun rs ru => .mk (fun fr => rs (s fr)) (fun v fr k => m (fun r k => ru r v k) fr k)) (racc (key.toNat % 16))) (facc (key.toNat / 16)))
    (Nat.blt key.toNat 256)
theorem row_get_set (r : Row) (v : PA) (i j : Nat) (hi : i < 16) (hj : j < 16) : (r.set i v).get j = if i = j then some v else r.get j := by
  cases r
  obtain rfl | rfl | rfl | rfl | rfl | rfl | rfl | rfl | rfl | rfl | rfl | rfl | rfl | rfl | rfl | rfl := (show i = 0 ∨ i = 1 ∨ i = 2 ∨ i = 3 ∨ i = 4 ∨ i = 5 ∨ i = 6 ∨ i = 7 ∨ i = 8 ∨ i = 9 ∨ i = 10 ∨ i = 11 ∨ i = 12 ∨ i = 13 ∨ i = 14 ∨ i = 15 by omega)
  all_goals (obtain rfl | rfl | rfl | rfl | rfl | rfl | rfl | rfl | rfl | rfl | rfl | rfl | rfl | rfl | rfl | rfl := (show j = 0 ∨ j = 1 ∨ j = 2 ∨ j = 3 ∨ j = 4 ∨ j = 5 ∨ j = 6 ∨ j = 7 ∨ j = 8 ∨ j = 9 ∨ j = 10 ∨ j = 11 ∨ j = 12 ∨ j = 13 ∨ j = 14 ∨ j = 15 by omega) <;> rfl)
theorem fr_get_set (r : Fr) (v : Row) (i j : Nat) (hi : i < 16) (hj : j < 16) : (r.set i v).get j = if i = j then v else r.get j := by
  cases r
  obtain rfl | rfl | rfl | rfl | rfl | rfl | rfl | rfl | rfl | rfl | rfl | rfl | rfl | rfl | rfl | rfl := (show i = 0 ∨ i = 1 ∨ i = 2 ∨ i = 3 ∨ i = 4 ∨ i = 5 ∨ i = 6 ∨ i = 7 ∨ i = 8 ∨ i = 9 ∨ i = 10 ∨ i = 11 ∨ i = 12 ∨ i = 13 ∨ i = 14 ∨ i = 15 by omega)
  all_goals (obtain rfl | rfl | rfl | rfl | rfl | rfl | rfl | rfl | rfl | rfl | rfl | rfl | rfl | rfl | rfl | rfl := (show j = 0 ∨ j = 1 ∨ j = 2 ∨ j = 3 ∨ j = 4 ∨ j = 5 ∨ j = 6 ∨ j = 7 ∨ j = 8 ∨ j = 9 ∨ j = 10 ∨ j = 11 ∨ j = 12 ∨ j = 13 ∨ j = 14 ∨ j = 15 by omega) <;> rfl)
theorem row_empty (j : Nat) (hj : j < 16) : Row.empty.get j = none := by
  obtain rfl | rfl | rfl | rfl | rfl | rfl | rfl | rfl | rfl | rfl | rfl | rfl | rfl | rfl | rfl | rfl := (show j = 0 ∨ j = 1 ∨ j = 2 ∨ j = 3 ∨ j = 4 ∨ j = 5 ∨ j = 6 ∨ j = 7 ∨ j = 8 ∨ j = 9 ∨ j = 10 ∨ j = 11 ∨ j = 12 ∨ j = 13 ∨ j = 14 ∨ j = 15 by omega) <;> rfl
theorem fr_empty (j : Nat) (hj : j < 16) : Fr.empty.get j = .empty := by
  obtain rfl | rfl | rfl | rfl | rfl | rfl | rfl | rfl | rfl | rfl | rfl | rfl | rfl | rfl | rfl | rfl := (show j = 0 ∨ j = 1 ∨ j = 2 ∨ j = 3 ∨ j = 4 ∨ j = 5 ∨ j = 6 ∨ j = 7 ∨ j = 8 ∨ j = 9 ∨ j = 10 ∨ j = 11 ∨ j = 12 ∨ j = 13 ∨ j = 14 ∨ j = 15 by omega) <;> rfl
theorem racc_spec (i : Nat) (hi : i < 16) : ∃ g p, racc i = .mk g p ∧ (∀ r, g r = r.get i) ∧ ∀ r v k, p r v k = k (r.set i v) := by
  obtain rfl | rfl | rfl | rfl | rfl | rfl | rfl | rfl | rfl | rfl | rfl | rfl | rfl | rfl | rfl | rfl := (show i = 0 ∨ i = 1 ∨ i = 2 ∨ i = 3 ∨ i = 4 ∨ i = 5 ∨ i = 6 ∨ i = 7 ∨ i = 8 ∨ i = 9 ∨ i = 10 ∨ i = 11 ∨ i = 12 ∨ i = 13 ∨ i = 14 ∨ i = 15 by omega)
  all_goals exact ⟨_, _, rfl, fun r => by cases r; rfl, fun r v k => by cases r; rfl⟩
theorem facc_spec (i : Nat) (hi : i < 16) : ∃ g p, facc i = .mk g p ∧ (∀ r, g r = r.get i) ∧ ∀ f r k, p f r k = f (r.get i) (fun v => k (r.set i v)) := by
  obtain rfl | rfl | rfl | rfl | rfl | rfl | rfl | rfl | rfl | rfl | rfl | rfl | rfl | rfl | rfl | rfl := (show i = 0 ∨ i = 1 ∨ i = 2 ∨ i = 3 ∨ i = 4 ∨ i = 5 ∨ i = 6 ∨ i = 7 ∨ i = 8 ∨ i = 9 ∨ i = 10 ∨ i = 11 ∨ i = 12 ∨ i = 13 ∨ i = 14 ∨ i = 15 by omega)
  all_goals exact ⟨_, _, rfl, fun r => by cases r; rfl, fun f r k => by cases r; rfl⟩
def Fr.at (fr : Fr) (k : Key) : Option PA := if k.toNat < 256 then (fr.get (k.toNat / 16)).get (k.toNat % 16) else none
theorem acc_spec (k : Key) : (∃ g p, acc k = .mk g p ∧ (∀ fr, g fr = fr.at k) ∧ ∀ v fr c, p v fr c = true → ∃ fr', c fr' = true ∧ ∀ j, fr'.at j = if k = j then some v else fr.at j) := by
  by_cases hk : k.toNat < 256
  · obtain ⟨g, p, h1, h2, h3⟩ := facc_spec (k.toNat / 16) (by omega)
    obtain ⟨g', p', h4, h5, h6⟩ := racc_spec (k.toNat % 16) (by omega)
    refine ⟨fun fr => g' (g fr), fun v fr c => p (fun r c => p' r v c) fr c, ?_, fun fr => ?_, fun v fr c h => ?_⟩
    · have hb : Nat.blt k.toNat 256 = true := by simp [Nat.blt_eq]; exact hk
      simp only [acc, hb, h1, h4]
    · show g' (g fr) = _
      rw [h2, h5]; simp [Fr.at, hk]
    · have h : p (fun r c => p' r v c) fr c = true := h
      rw [h3, h6] at h
      refine ⟨_, h, fun j => ?_⟩
      by_cases hj : j.toNat < 256
      · simp only [Fr.at, hj, if_true]
        rw [fr_get_set _ _ _ _ (by omega) (by omega)]
        by_cases e1 : k.toNat / 16 = j.toNat / 16
        · rw [if_pos e1, row_get_set _ _ _ _ (by omega) (by omega)]
          by_cases e2 : k.toNat % 16 = j.toNat % 16
          · have : k = j := Key.toNat_inj (by omega)
            rw [if_pos e2, if_pos this]
          · have : k ≠ j := by rintro rfl; exact e2 rfl
            rw [if_neg e2, if_neg this, e1]
        · have : k ≠ j := by rintro rfl; exact e1 rfl
          rw [if_neg e1, if_neg this]
      · have : k ≠ j := by rintro rfl; exact hj hk
        simp [Fr.at, hj, this]
  · refine ⟨fun _ => none, fun _ _ _ => false, ?_, fun fr => by simp [Fr.at, hk], fun v fr c h => ff h⟩
    have hb : Nat.blt k.toNat 256 = false := by
      cases h : Nat.blt k.toNat 256 with
      | false => rfl
      | true => rw [Nat.blt_eq] at h; exact absurd h hk
    simp only [acc, hb]
theorem empty_at (k : Key) : Fr.empty.at k = none := by
  unfold Fr.at
  split
  · rw [fr_empty _ (by omega), row_empty _ (by omega)]
  · rfl
end Go.Pv.K
end
section
namespace Go.Pv.K
open Go.Vm
open Go.Vm.Key (kn)
abbrev KK := PA → PHeap → Bool
abbrev KOp1 := PA → PHeap → KK → Bool
abbrev KOp2 := PA → PA → PHeap → KK → Bool
def go (b : Bool) : Bool := b
noncomputable def ite' (c : Bool) (a b : Bool) : Bool := @Bool.rec (fun _ => Bool) b a c
noncomputable def forceN (n : Nat) (k : Nat → Bool) : Bool := @Nat.rec (fun _ => Bool) (k 0) (fun m _ => k (Nat.succ m)) n
noncomputable def forceI (n : Int) (k : Int → Bool) : Bool := @Int.rec (fun _ => Bool) (fun n => forceN n (fun n => k (.ofNat n))) (fun n => forceN n (fun n => k (.negSucc n))) n
noncomputable def forceB (b : Bool) (k : Bool → Bool) : Bool := @Bool.rec (fun _ => Bool) (k false) (k true) b
noncomputable def onV (a : PA) (f : PV → Bool) : Bool := @PA.rec (fun _ => (PV → Bool) → Bool) (fun c => @PC.rec (fun _ => (PV → Bool) → Bool) (fun x f => f x) (fun _ _ => false) c) (fun _ _ => false) a f
noncomputable def forceV (x : PV) (k : PV → Bool) : Bool := @PV.rec (fun _ => (PV → Bool) → Bool) (fun _ => Unit) (fun _ => Unit) (fun b k => forceB b (fun b => k (.bool b))) (fun kd n k => forceI n (fun n => k (.int kd n))) (fun l k => k (.str l)) (fun b o k => k (.ptr b o)) (fun k => k .nilp) (fun b o len es cap k => k (.slice b o len es cap)) (fun k => k .nils) (fun b k => k (.map b)) (fun k => k .nilm) (fun f a b k => k (.func f a b)) (fun k => k .nilf) (fun es l cap _ k => k (.lst es l cap)) (fun l _ k => k (.rp l)) () (fun _ _ _ _ => ()) () (fun _ _ _ _ => ()) x k
noncomputable def forceA (a : PA) (k : PA → Bool) : Bool :=
  @PA.rec (fun _ => (PA → Bool) → Bool) (fun c => @PC.rec (fun _ => (PA → Bool) → Bool) (fun x k => forceV x (fun x => k (.v (.s x)))) (fun l k => k (.v (.agg l))) c) (fun l k => k (.tup l)) a k
noncomputable def dfl (r : Option (PA × PHeap)) (k : KK) : Bool :=
  @Option.rec (PA × PHeap) (fun _ => Bool) false (fun p => @Prod.rec PA PHeap (fun _ => Bool) (fun v h => @PHeap.rec (fun _ => Bool) (fun m n => forceA v (fun v => k v ⟨m, n⟩)) h) p) r
noncomputable def nthK {α : Type} (k : α → Bool) (o : Nat) : List α → Bool :=
  @Nat.rec (fun _ => List α → Bool) (fun l => @List.rec α (fun _ => Bool) false (fun x _ _ => k x) l) (fun _ ih l => @List.rec α (fun _ => Bool) false (fun _ l _ => ih l) l) o
noncomputable def dropK {α : Type} (k : List α → Bool) (o : Nat) : List α → Bool :=
  @Nat.rec (fun _ => List α → Bool) k (fun _ ih l => @List.rec α (fun _ => Bool) false (fun _ l _ => ih l) l) o
noncomputable def takeK {α : Type} (n : Nat) : List α → (List α → Bool) → Bool :=
  @Nat.rec (fun _ => List α → (List α → Bool) → Bool) (fun _ k => k []) (fun _ ih l k => @List.rec α (fun _ => Bool) false (fun x l _ => ih l (fun r => k (x :: r))) l) n
noncomputable def lenK {α : Type} (l : List α) : Nat := @List.rec α (fun _ => Nat) 0 (fun _ _ ih => Nat.add ih 1) l
noncomputable def putK (new : List PV) : List PV → (List PV → Bool) → Bool :=
  @List.rec PV (fun _ => List PV → (List PV → Bool) → Bool) (fun l k => k l) (fun y _ ih l k => @List.rec PV (fun _ => Bool) false (fun _ l _ => ih l (fun r => k (y :: r))) l) new
noncomputable def overK (new : List PV) (o : Nat) : List PV → (List PV → Bool) → Bool :=
  @Nat.rec (fun _ => List PV → (List PV → Bool) → Bool) (fun l k => putK new l k) (fun _ ih l k => @List.rec PV (fun _ => Bool) false (fun x l _ => ih l (fun r => k (x :: r))) l) o
noncomputable def getB : Key → Tr PBlk → Option PBlk :=
  @Key.rec (fun _ => Tr PBlk → Option PBlk)
    (fun t => @Tr.rec PBlk (fun _ => Option PBlk) none (fun _ v _ _ _ => v) t)
    (fun _ ih t => @Tr.rec PBlk (fun _ => Option PBlk) none (fun l _ _ _ _ => ih l) t)
    (fun _ ih t => @Tr.rec PBlk (fun _ => Option PBlk) none (fun _ _ r _ _ => ih r) t)
noncomputable def updB : Key → PBlk → Tr PBlk → (Tr PBlk → Bool) → Bool :=
  @Key.rec (fun _ => PBlk → Tr PBlk → (Tr PBlk → Bool) → Bool)
    (fun v t k => @Tr.rec PBlk (fun _ => Bool) (k (.n .z (some v) .z)) (fun l _ r _ _ => k (.n l (some v) r)) t)
    (fun _ ih v t k => @Tr.rec PBlk (fun _ => Bool) (ih v .z (fun l => k (.n l none .z))) (fun l x r _ _ => ih v l (fun l => k (.n l x r))) t)
    (fun _ ih v t k => @Tr.rec PBlk (fun _ => Bool) (ih v .z (fun r => k (.n .z none r))) (fun l x r _ _ => ih v r (fun r => k (.n l x r))) t)
noncomputable def succK : Key → (Key → Bool) → Bool :=
  @Key.rec (fun _ => (Key → Bool) → Bool) (fun k => k (.o .h)) (fun a _ k => k (.i a)) (fun _ ih k => ih (fun s => k (.o s)))
noncomputable def onBlk (h : PHeap) (b : Key) (f : PBody → Bool → Bool → List Key → List (Nat × Nat) → Bool) : Bool :=
  @PHeap.rec (fun _ => Bool) (fun mem _ => @Option.rec PBlk (fun _ => Bool) false (fun x => @PBlk.rec (fun _ => Bool) f x) (getB b mem)) h
noncomputable def onCells (h : PHeap) (b : Key) (f : List PV → Bool) : Bool :=
  onBlk h b (fun body _ _ _ _ => @PBody.rec (fun _ => Bool) f (fun _ => false) (fun _ _ _ => false) body)
noncomputable def newK (h : PHeap) (body : PBody) (k : Key → PHeap → Bool) : Bool :=
  @PHeap.rec (fun _ => Bool) (fun mem next => updB next ⟨body, true, false, [], []⟩ mem (fun mem => succK next (fun n => k next ⟨mem, n⟩))) h
noncomputable def onPtr (x : PV) (f : Key → Nat → Bool) (r : List PV → Bool) (e : Bool) : Bool := @PV.rec (fun _ => (Key → Nat → Bool) → (List PV → Bool) → Bool → Bool) (fun _ => Unit) (fun _ => Unit) (fun _ _ _ e => e) (fun _ _ _ _ e => e) (fun _ _ _ e => e) (fun b o f _ _ => f b o) (fun _ _ e => e) (fun _ _ _ _ _ _ _ e => e) (fun _ _ e => e) (fun _ _ _ e => e) (fun _ _ e => e) (fun _ _ _ _ _ e => e) (fun _ _ e => e) (fun _ _ _ _ _ _ e => e) (fun l _ _ r _ => r l) () (fun _ _ _ _ => ()) () (fun _ _ _ _ => ()) x f r e
noncomputable def onInt (x : PV) (f : IntKind → Int → Bool) (e : Bool) : Bool := @PV.rec (fun _ => (IntKind → Int → Bool) → Bool → Bool) (fun _ => Unit) (fun _ => Unit) (fun _ _ e => e) (fun k n f _ => f k n) (fun _ _ e => e) (fun _ _ _ e => e) (fun _ e => e) (fun _ _ _ _ _ _ e => e) (fun _ e => e) (fun _ _ e => e) (fun _ e => e) (fun _ _ _ _ e => e) (fun _ e => e) (fun _ _ _ _ _ e => e) (fun _ _ _ e => e) () (fun _ _ _ _ => ()) () (fun _ _ _ _ => ()) x f e
noncomputable def onBool (x : PV) (f : Bool → Bool) : Bool := @PV.rec (fun _ => (Bool → Bool) → Bool) (fun _ => Unit) (fun _ => Unit) (fun b f => f b) (fun _ _ _ => false) (fun _ _ => false) (fun _ _ _ => false) (fun _ => false) (fun _ _ _ _ _ _ => false) (fun _ => false) (fun _ _ => false) (fun _ => false) (fun _ _ _ _ => false) (fun _ => false) (fun _ _ _ _ _ => false) (fun _ _ _ => false) () (fun _ _ _ _ => ()) () (fun _ _ _ _ => ()) x f
noncomputable def onSl (x : PV) (f : Key → Nat → Nat → Nat → Bool) (g : Nat → List (List PV) → Bool) (n : Bool) : Bool := @PV.rec (fun _ => (Key → Nat → Nat → Nat → Bool) → (Nat → List (List PV) → Bool) → Bool → Bool) (fun _ => Unit) (fun _ => Unit) (fun _ _ _ _ => false) (fun _ _ _ _ _ => false) (fun _ _ _ _ => false) (fun _ _ _ _ _ => false) (fun _ _ _ => false) (fun b o len es _ f _ _ => f b o len es) (fun _ _ n => n) (fun _ _ _ _ => false) (fun _ _ _ => false) (fun _ _ _ _ _ _ => false) (fun _ _ _ => false) (fun es l _ _ _ g _ => g es l) (fun _ _ _ _ _ => false) () (fun _ _ _ _ => ()) () (fun _ _ _ _ => ()) x f g n
noncomputable def kLoad1 : KOp1 := fun a h k => onV a fun x => onPtr x (fun b o => onCells h b (nthK (fun v => k (.v (.s v)) h) o)) (fun l => @List.rec PV (fun _ => Bool) false (fun v _ _ => k (.v (.s v)) h) l) false
noncomputable def kLoadn (n : Nat) : KOp1 := fun a h k => onV a fun x => onPtr x (fun b o => onCells h b (dropK (fun l => takeK n l (fun r => k (.v (.agg r)) h)) o)) (fun l => takeK n l (fun r => k (.v (.agg r)) h)) false
noncomputable def kNilchk : KOp1 := fun a h k => onV a fun x => onPtr x (fun b o => k (.v (.s (.ptr b o))) h) (fun l => k (.v (.s (.rp l))) h) (dfl (pNilchk [a] h) k)
noncomputable def kFaddr (off : Nat) : KOp1 := fun a h k => onV a fun x => onPtr x (fun b o => forceN (Nat.add o off) (fun o => k (.v (.s (.ptr b o))) h)) (dropK (fun l => k (.v (.s (.rp l))) h) off) false
noncomputable def kLens : KOp1 := fun a h k => onV a fun x => onSl x (fun _ _ len _ => k (.int .i64 (.ofNat len)) h) (fun _ l => forceN (lenK l) (fun n => k (.int .i64 (.ofNat n)) h)) (k (.int .i64 (.ofNat 0)) h)
noncomputable def kExtract (i : Nat) : KOp1 := fun a h k => @PA.rec (fun _ => Bool) (fun _ => false) (nthK (fun c => k (.v c) h) i) a
noncomputable def kNot : KOp1 := fun a h k => onV a fun x => onBool x fun b => @Bool.rec (fun _ => Bool) (k (.bool true) h) (k (.bool false) h) b
noncomputable def cellsK (c : PC) (f : List PV → Bool) : Bool := @PC.rec (fun _ => Bool) (fun x => f [x]) f c
noncomputable def kBox (n : Nat) : KOp1 := fun a h k => @PA.rec (fun _ => Bool) (fun c => cellsK c fun l => ite' (Nat.beq (lenK l) n) (newK h (.cells l) (fun b h => k (.v (.s (.ptr b 0))) h)) false) (fun _ => false) a
noncomputable def kIsl (es : Nat) : KOp2 := fun a i h k => onV a fun x => onV i fun i => onInt i (fun _ i => @Int.rec (fun _ => Bool) (fun i =>
  onSl x (fun b o len es' => ite' (Nat.ble (Nat.succ i) len) (ite' (Nat.beq es es') (forceN (Nat.add o (Nat.mul i es)) (fun o => k (.v (.s (.ptr b o))) h)) false) false)
    (fun es' l => ite' (Nat.beq es es') (nthK (fun e => k (.v (.s (.rp e))) h) i l) false) false) (fun _ => false) i) false
noncomputable def kStore (n : Nat) : KOp2 := fun a v h k => onV a fun x => onPtr x (fun b o => @PA.rec (fun _ => Bool) (fun c => cellsK c fun l => ite' (Nat.beq (lenK l) n)
    (@PHeap.rec (fun _ => Bool) (fun mem next => @Option.rec PBlk (fun _ => Bool) false (fun x => @PBlk.rec (fun _ => Bool) (fun body own frz anc log =>
      @PBody.rec (fun _ => Bool) (fun c => @List.rec Key (fun _ => Bool)
        (ite' own (ite' frz false (overK l o c (fun c => updB b ⟨.cells c, true, false, [], (o, n) :: log⟩ mem (fun mem => k .unit ⟨mem, next⟩)))) false)
        (fun _ _ _ => dfl (pStore n [a, v] h) k) anc) (fun _ => false) (fun _ _ _ => false) body) x) (getB b mem)) h) false) (fun _ => false) v) (fun _ => false) false
noncomputable def is64 (k : IntKind) : Bool := @IntKind.rec (fun _ => Bool) false false false true false false false false k
noncomputable def on64 (x y : PV) (f : Nat → Nat → Bool) (e : Bool) : Bool :=
  onInt x (fun kd a => onInt y (fun kd' b => @Bool.rec (fun _ => Bool) e (@Bool.rec (fun _ => Bool) e (@Int.rec (fun _ => Bool) (fun a => @Int.rec (fun _ => Bool) (fun b => f a b) (fun _ => e) b) (fun _ => e) a) (is64 kd')) (is64 kd)) e) e
noncomputable def anyBin (b : BinOp) (a c : PA) (h : PHeap) (k : KK) : Bool := dfl (pBin b [a, c] h) k
noncomputable def kAdd : KOp2 := fun a c h k => onV a fun x => onV c fun y => on64 x y (fun m n => ite' (Nat.ble (Nat.add m n) 9223372036854775807) (forceN (Nat.add m n) (fun s => k (.int .i64 (.ofNat s)) h)) (anyBin .add a c h k)) (anyBin .add a c h k)
noncomputable def kSub : KOp2 := fun a c h k => onV a fun x => onV c fun y => on64 x y (fun m n => ite' (Nat.ble n m) (ite' (Nat.ble m 9223372036854775807) (forceN (Nat.sub m n) (fun s => k (.int .i64 (.ofNat s)) h)) (anyBin .sub a c h k)) (anyBin .sub a c h k)) (anyBin .sub a c h k)
noncomputable def kCmp (b : BinOp) (f : Nat → Nat → Bool) : KOp2 := fun a c h k => onV a fun x => onV c fun y => on64 x y (fun m n => @Bool.rec (fun _ => Bool) (k (.bool false) h) (k (.bool true) h) (f m n)) (anyBin b a c h k)
noncomputable def notB (b : Bool) : Bool := @Bool.rec (fun _ => Bool) true false b
noncomputable def appK (l : List PV) (m : List PV) (k : List PV → Bool) : Bool := @List.rec PV (fun _ => (List PV → Bool) → Bool) (fun k => k m) (fun x _ ih k => ih (fun r => k (x :: r))) l k
noncomputable def flatK (l : List (List PV)) (k : List PV → Bool) : Bool := @List.rec (List PV) (fun _ => (List PV → Bool) → Bool) (fun k => k []) (fun x _ ih k => ih (fun r => appK x r k)) l k
noncomputable def onSrc (x : PV) (f : Key → Nat → Nat → Nat → Bool) (g : Nat → List (List PV) → Bool) (n e : Bool) : Bool :=
  @PV.rec (fun _ => (Key → Nat → Nat → Nat → Bool) → (Nat → List (List PV) → Bool) → Bool → Bool → Bool) (fun _ => Unit) (fun _ => Unit) (fun _ _ _ _ e => e) (fun _ _ _ _ _ e => e) (fun _ _ _ _ e => e) (fun _ _ _ _ _ e => e) (fun _ _ _ e => e)
    (fun b o len es _ f _ _ _ => f b o len es) (fun _ _ n _ => n) (fun _ _ _ _ e => e) (fun _ _ _ e => e) (fun _ _ _ _ _ _ e => e) (fun _ _ _ e => e) (fun es l _ _ _ g _ _ => g es l) (fun _ _ _ _ _ e => e) () (fun _ _ _ _ => ()) () (fun _ _ _ _ => ()) x f g n e
noncomputable def srcK (es : Nat) (x : PV) (h : PHeap) (k : List PV → Nat → Bool) (e : Bool) : Bool :=
  onSrc x (fun b o len es' => ite' (Nat.beq es es') (@Nat.rec (fun _ => Bool) (k [] len) (fun m _ => onCells h b (dropK (fun c => takeK (Nat.succ m) c (fun l => k l len)) o)) (Nat.mul len es)) false)
    (fun es' l => ite' (Nat.beq es es') (flatK l (fun c => forceN (lenK l) (fun n => k c n))) false) (k [] 0) e
noncomputable def noCap (cap : Option Nat) (a b : Bool) : Bool := @Option.rec Nat (fun _ => Bool) a (fun _ => b) cap
noncomputable def growK (h : PHeap) (b : Key) (o n : Nat) (new : List PV) (k : Key → PHeap → Bool) (e : Bool) : Bool :=
  @PHeap.rec (fun _ => Bool) (fun mem next => @Option.rec PBlk (fun _ => Bool) false (fun x => @PBlk.rec (fun _ => Bool) (fun body own frz anc log =>
    @PBody.rec (fun _ => Bool) (fun c => ite' own (ite' (Nat.beq (Nat.add o n) (lenK c))
      (dropK (fun d => takeK n d (fun d => appK d new (fun d => updB b ⟨.cells c, false, frz, anc, log⟩ mem (fun mem => updB next ⟨.cells d, true, false, b :: anc, []⟩ mem (fun mem => succK next (fun n => k next ⟨mem, n⟩)))))) o c) e) false)
      (fun _ => false) (fun _ _ _ => false) body) x) (getB b mem)) h
noncomputable def onCap (x : PV) (f : Key → Nat → Nat → Nat → Bool) (e n : Bool) : Bool :=
  @PV.rec (fun _ => Bool) (fun _ => Unit) (fun _ => Unit) (fun _ => e) (fun _ _ => e) (fun _ => e) (fun _ _ => e) e (fun b o len es cap => noCap cap (f b o len es) e) n (fun _ => e) e (fun _ _ _ => e) e (fun _ _ _ _ => e) (fun _ _ => e) () (fun _ _ _ _ => ()) () (fun _ _ _ _ => ()) x
noncomputable def kAppend (es bytes : Nat) : KOp2 := fun a c h k => onV a fun s => onV c fun x => srcK es x h (fun new n => ite' (Nat.beq n 0) (dfl (pAppend es bytes [a, c] h) k)
    (onCap s (fun b o len es' => ite' (Nat.beq es es') (ite' (room (Nat.add len n) bytes) (growK h b o (Nat.mul len es) new (fun b h => forceN (Nat.add len n) (fun m => k (.v (.s (.slice b 0 m es none))) h)) (dfl (pAppend es bytes [a, c] h) k)) false) false)
      (dfl (pAppend es bytes [a, c] h) k)
      (ite' (room n bytes) (newK h (.cells new) (fun b h => k (.v (.s (.slice b 0 n es none))) h)) false))) (dfl (pAppend es bytes [a, c] h) k)
abbrev KOpN := List PA → PHeap → KK → Bool
inductive KFN where
  | mk (f : KOpN)
noncomputable def onL (l : Option (List PV)) (f : List PV → Bool) : Bool := @Option.rec (List PV) (fun _ => Bool) false f l
noncomputable def kNewz (zs : List SV) : KOpN := fun xs h k => @List.rec PA (fun _ => Bool) (onL (ofSVs zs) (fun l => newK h (.cells l) (fun b h => k (.v (.s (.ptr b 0))) h))) (fun _ _ _ => false) xs
noncomputable def kBslice (es len : Nat) (zero : List SV) (places : List (Nat × Nat)) : KOpN := fun xs h k => onL (ofSVs zero) (fun z => onL (layP (replP z len) places xs) (fun cs => newK h (.cells cs) (fun b h => k (.v (.s (.slice b 0 len es (some len)))) h)))
noncomputable def kopN : VOp → KFN
  | .newz zs => .mk (kNewz zs)
  | .bslice es len z p => .mk (kBslice es len z p)
  | o => .mk (fun xs h k => dfl (opP o xs h) k)
inductive KF1 where
  | mk (f : KOp1)
inductive KF2 where
  | mk (f : KOp2)
noncomputable def kop1 : VOp → KF1
  | .load1 => .mk kLoad1
  | .loadn n => .mk (kLoadn n)
  | .nilchk => .mk kNilchk
  | .faddr o => .mk (kFaddr o)
  | .lens => .mk kLens
  | .extract i => .mk (kExtract i)
  | .un .not => .mk kNot
  | .box n => .mk (kBox n)
  | .bslice es len z p => .mk (fun a h k => kBslice es len z p [a] h k)
  | o => .mk (fun a h k => dfl (opP o [a] h) k)
noncomputable def kBinF : BinOp → KF2
  | .add => .mk kAdd
  | .sub => .mk kSub
  | .eql => .mk (kCmp .eql Nat.beq)
  | .neq => .mk (kCmp .neq (fun m n => notB (Nat.beq m n)))
  | .lss => .mk (kCmp .lss (fun m n => Nat.ble (Nat.succ m) n))
  | .leq => .mk (kCmp .leq Nat.ble)
  | .gtr => .mk (kCmp .gtr (fun m n => Nat.ble (Nat.succ n) m))
  | .geq => .mk (kCmp .geq (fun m n => Nat.ble n m))
  | b => .mk (anyBin b)
noncomputable def kop2 : VOp → KF2
  | .isl es => .mk (kIsl es)
  | .append es by' => .mk (kAppend es by')
  | .store n => .mk (kStore n)
  | .bin b => kBinF b
  | .bslice es len z p => .mk (fun a b h k => kBslice es len z p [a, b] h k)
  | o => .mk (fun a b h k => dfl (opP o [a, b] h) k)
end Go.Pv.K
end
section
namespace Go.Pv.K
open Go.Vm
open Go.Vm.Key (kn)
inductive KArg where
  | s (g : Fr → Option PA)
  | c (v : PA)
  | bad
noncomputable def kArg (x : VX) : KArg := @VX.rec (fun _ => KArg) (fun key => @Acc.rec (fun _ => KArg) (fun g _ => .s g) (acc key)) (fun v => @Option.rec PA (fun _ => KArg) .bad (fun v => .c v) (ofAV v)) x
noncomputable def evalK (a : KArg) (fr : Fr) (k : PA → Bool) : Bool :=
  @KArg.rec (fun _ => Fr → (PA → Bool) → Bool) (fun g fr k => @Option.rec PA (fun _ => Bool) false k (g fr)) (fun v _ k => k v) (fun _ _ => false) a fr k
abbrev KPut := PA → Fr → (Fr → Bool) → Bool
noncomputable def kPut (d : Option Key) : KPut := @Option.rec Key (fun _ => KPut) (fun _ fr k => k fr) (fun key => @Acc.rec (fun _ => KPut) (fun _ p => p) (acc key)) d
inductive KPutB where
  | mk (p : KPut)
noncomputable def kPutB (d : Option Key) : KPutB := @Option.rec Key (fun _ => KPutB) (.mk fun _ fr k => k fr) (fun key => @Acc.rec (fun _ => KPutB) (fun _ p => .mk p) (acc key)) d
noncomputable def fetchK : List VX → Fr → (List PA → Bool) → Bool :=
  @List.rec VX (fun _ => Fr → (List PA → Bool) → Bool) (fun _ k => k []) (fun x _ ih fr k => evalK (kArg x) fr (fun v => ih fr (fun vs => k (v :: vs))))
abbrev KCaller := Nat → List PA → PHeap → KK → Bool
noncomputable def callvK (call : KCaller) (args : List PA) (h : PHeap) (k : KK) : Bool :=
  match args with
  | .v (.s (.func f fs cs)) :: xs => call f (ptrAs fs ++ xs ++ ptrAs cs) h k
  | _ => false
noncomputable def actK (call : KCaller) (a : VAct) (args : List PA) (h : PHeap) (k : KK) : Bool :=
  @VAct.rec (fun _ => Bool) (fun o => dfl (opP o args h) k) (fun f => call f args h k)
    (callvK call args h k) a
inductive KO where
  | mvS (g : Fr → Option PA) (p : KPut)
  | mvC (v : PA) (p : KPut)
  | o1S (f : KOp1) (g : Fr → Option PA) (p : KPut)
  | o2SS (f : KOp2) (g g' : Fr → Option PA) (p : KPut)
  | o2 (f : KOp2) (a b : KArg) (p : KPut)
  | oN (act : VAct) (args : List VX) (p : KPut)
  | oF (f : KOpN) (args : List VX) (p : KPut)
  | gd (key : Key) (b : Bool) (p : KPut) (o : KO)
noncomputable def kMov (a : KArg) (x : VX) (p : KPut) : KO := @KArg.rec (fun _ => KO) (fun g => .mvS g p) (fun v => .mvC v p) (.oN (.op .mov) [x] p) a
noncomputable def kOne (o : VOp) (f : KOp1) (a : KArg) (x : VX) (p : KPut) : KO := @KArg.rec (fun _ => KO) (fun g => .o1S f g p) (fun _ => .oN (.op o) [x] p) (.oN (.op o) [x] p) a
noncomputable def kTwo (f : KOp2) (a b : KArg) (p : KPut) : KO :=
  @KArg.rec (fun _ => KO) (fun g => @KArg.rec (fun _ => KO) (fun g' => .o2SS f g g' p) (fun v => .o2 f (.s g) (.c v) p) (.o2 f (.s g) .bad p) b) (fun v => .o2 f (.c v) b p) (.o2 f .bad b p) a
noncomputable def kAct (act : VAct) (args : List VX) (p : KPut) : KO :=
  match act, args with
  | .op .mov, [a] => kMov (kArg a) a p
  | .op o, [a] => @KF1.rec (fun _ => KO) (fun f => kOne o f (kArg a) a p) (kop1 o)
  | .op o, [a, b] => @KF2.rec (fun _ => KO) (fun f => kTwo f (kArg a) (kArg b) p) (kop2 o)
  | .op o, args => @KFN.rec (fun _ => KO) (fun f => .oF f args p) (kopN o)
  | act, args => .oN act args p
noncomputable def kOper (o : VOper) : KO := @VOper.rec (fun _ => KO) (fun dst act args _ => @KPutB.rec (fun _ => KO) (fun p => kAct act args p) (kPutB dst)) o
noncomputable def kStep (o : VOper) : KO := @VOper.rec (fun _ => KO) (fun dst _ _ guard => @Option.rec (Key × Bool) (fun _ => KO) (kOper o)
  (fun q => @Prod.rec Key Bool (fun _ => KO) (fun key b => @KPutB.rec (fun _ => KO) (fun p => .gd key b p (kOper o)) (kPutB dst)) q) guard) o
noncomputable def kSteps : List VOper → List KO := @List.rec VOper (fun _ => List KO) [] (fun o _ ih => kStep o :: ih)
noncomputable def wantP (x : PV) (b : Bool) (k : Bool → Bool) : Bool := @PV.rec (fun _ => Bool → (Bool → Bool) → Bool) (fun _ => Unit) (fun _ => Unit) (fun c b k => forceB (c == b) k) (fun _ _ _ k => k false) (fun _ _ k => k false) (fun _ _ _ k => k false) (fun _ k => k false) (fun _ _ _ _ _ _ k => k false) (fun _ k => k false) (fun _ _ k => k false) (fun _ k => k false) (fun _ _ _ _ k => k false) (fun _ k => k false) (fun _ _ _ _ _ k => k false) (fun _ _ _ k => k false) () (fun _ _ _ _ => ()) () (fun _ _ _ _ => ()) x b k
noncomputable def wantV (v : PA) (b : Bool) (k : Bool → Bool) : Bool := @PA.rec (fun _ => Bool → (Bool → Bool) → Bool) (fun c => @PC.rec (fun _ => Bool → (Bool → Bool) → Bool) (fun x b k => wantP x b k) (fun _ _ k => k false) c) (fun _ _ k => k false) v b k
noncomputable def wantK (g : Option (Key × Bool)) (fr : Fr) (k : Bool → Bool) : Bool :=
  @Option.rec (Key × Bool) (fun _ => Bool) (k true) (fun p => @Prod.rec Key Bool (fun _ => Bool) (fun key b => evalK (kArg (.t key)) fr (fun v =>
    wantV v b k)) p) g
noncomputable def runKO : KO → KCaller → Fr → PHeap → (Fr → PHeap → Bool) → Bool :=
  @KO.rec (fun _ => KCaller → Fr → PHeap → (Fr → PHeap → Bool) → Bool)
    (fun g p _ fr h k => @Option.rec PA (fun _ => Bool) false (fun v => p v fr (fun fr => k fr h)) (g fr))
    (fun v p _ fr h k => p v fr (fun fr => k fr h))
    (fun f g p _ fr h k => @Option.rec PA (fun _ => Bool) false (fun a => f a h (fun v h => p v fr (fun fr => k fr h))) (g fr))
    (fun f g g' p _ fr h k => @Option.rec PA (fun _ => Bool) false (fun a => @Option.rec PA (fun _ => Bool) false (fun b => f a b h (fun v h => p v fr (fun fr => k fr h))) (g' fr)) (g fr))
    (fun f a b p _ fr h k => evalK a fr (fun a => evalK b fr (fun b => f a b h (fun v h => p v fr (fun fr => k fr h)))))
    (fun act args p call fr h k => fetchK args fr (fun args => actK call act args h (fun v h => p v fr (fun fr => k fr h))))
    (fun f args p _ fr h k => fetchK args fr (fun args => f args h (fun v h => p v fr (fun fr => k fr h))))
    (fun key b p _ ih call fr h k => wantK (some (key, b)) fr (fun w => @Bool.rec (fun _ => Bool) (p .unit fr (fun fr => k fr h)) (ih call fr h k) w))
noncomputable def opsK (call : KCaller) (ops : List VOper) : Fr → PHeap → (Fr → PHeap → Bool) → Bool :=
  @List.rec KO (fun _ => KCaller → Fr → PHeap → (Fr → PHeap → Bool) → Bool) (fun _ fr h k => k fr h) (fun o _ ih call fr h k => runKO o call fr h (fun fr h => go (ih call fr h k))) (kSteps ops) call
inductive KD where
  | eff | alc | rd | bl
noncomputable def opKD (o : VOp) : KD :=
  match o.kind with
  | .effect => .eff
  | .alloc => .alc
  | .quiet => if blindP o then .bl else .rd
noncomputable def actKD (a : VAct) : KD := @VAct.rec (fun _ => KD) opKD (fun _ => .eff) .eff a
inductive KDO where
  | eff (o : KO) (dst : Option Key)
  | alc (o : KO) (dst : Option Key)
  | rd (o : KO) (p : KPut) (dst : Option Key) (g : Option (Key × Bool)) (op : VOp) (args : List VX) (chk : Nat)
  | bl (o : KO) (p : KPut) (dst : Option Key) (g : Option (Key × Bool)) (args : List VX)
  | effN (o : KO)
  | alcN (o : KO)
  | blN (o : KO)
  | bad
noncomputable def hasRd : List DOp → Bool := @List.rec DOp (fun _ => Bool) false (fun d _ ih => @DOp.rec (fun _ => Bool) (fun o _ => @VOper.rec (fun _ => Bool) (fun _ act _ _ => @KD.rec (fun _ => Bool) ih ih true ih (actKD act)) o) d)
noncomputable def kD (d : DOp) (need : Bool) : KDO :=
  @DOp.rec (fun _ => KDO) (fun o chk => @VOper.rec (fun _ => KDO) (fun dst act args guard => @KPutB.rec (fun _ => KDO) (fun p => @KD.rec (fun _ => KDO)
    (@Bool.rec (fun _ => KDO) (.effN (kStep o)) (.eff (kStep o) dst) need) (@Bool.rec (fun _ => KDO) (.alcN (kStep o)) (.alc (kStep o) dst) need)
    (@VAct.rec (fun _ => KDO) (fun op => .rd (kOper o) p dst guard op args chk) (fun _ => .bad) .bad act)
    (@Bool.rec (fun _ => KDO) (.blN (kStep o)) (.bl (kOper o) p dst guard args) need) (actKD act)) (kPutB dst)) o) d
noncomputable def kDs : List DOp → List KDO := @List.rec DOp (fun _ => List KDO) [] (fun o l ih => kD o (hasRd l) :: ih)
abbrev KDK := Key → Snaps → Fr → PHeap → (Fr → PHeap → Bool) → Bool
noncomputable def onSn (s s' : Snaps) (k : Snaps → Bool) : Bool := @List.rec (PHeap × List Key) (fun _ => Bool) (k []) (fun _ _ _ => k s') s
noncomputable def checkK (lo hi : Key) (n : Nat) (op : VOp) (as : List PA) (args : List VX) (h : PHeap) (s : Snaps) : Bool :=
  @List.rec (PHeap × List Key) (fun _ => Bool) (ite' (Nat.beq n 0) true (outsideP lo hi (rdP op as) && (!rdF op as || noFrz h lo n)))
    (fun _ _ _ => outsideP lo hi (rdP op as) && (!rdF op as || noFrz h lo n) && sameP args (rdP op as) (rdF op as) h s) s
noncomputable def runKD : KDO → KCaller → Key → Key → Nat → KDK → KDK :=
  @KDO.rec (fun _ => KCaller → Key → Key → Nat → KDK → KDK)
    (fun o dst call _ _ _ ih r snaps fr h k => runKO o call fr h (fun fr h' => go (ih r (wrote dst (snaps ++ [(h, [])])) fr h' k)))
    (fun o dst call _ _ _ ih r snaps fr h k => @PHeap.rec (fun _ => Bool) (fun mem next => runKO o call fr ⟨mem, r⟩ (fun fr h' => @PHeap.rec (fun _ => Bool) (fun mem _ => succK r (fun r => go (ih r (wrote dst snaps) fr ⟨mem, next⟩ k))) h')) h)
    (fun o p dst g op args chk call lo hi n ih r snaps fr h k => wantK g fr (fun w => @Bool.rec (fun _ => Bool)
      (p .unit fr (fun fr => go (ih r snaps fr h k)))
      (fetchK args fr (fun as => ite' (checkK lo hi n op as args h (snaps.drop chk))
        (runKO o call fr h (fun fr _ => onSn snaps (wroteQ dst args (rdP op as) h snaps) (fun s => go (ih r s fr h k)))) false)) w))
    (fun o p dst g args call _ _ _ ih r snaps fr h k => wantK g fr (fun w => @Bool.rec (fun _ => Bool)
      (p .unit fr (fun fr => go (ih r snaps fr h k)))
      (runKO o call fr h (fun fr _ => onSn snaps (wroteQ dst args none h snaps) (fun s => go (ih r s fr h k)))) w))
    (fun o call _ _ _ ih r _ fr h k => runKO o call fr h (fun fr h' => go (ih r [] fr h' k)))
    (fun o call _ _ _ ih r _ fr h k => @PHeap.rec (fun _ => Bool) (fun mem next => runKO o call fr ⟨mem, r⟩ (fun fr h' => @PHeap.rec (fun _ => Bool) (fun mem _ => succK r (fun r => go (ih r [] fr ⟨mem, next⟩ k))) h')) h)
    (fun o call _ _ _ ih r _ fr h k => runKO o call fr h (fun fr _ => go (ih r [] fr h k)))
    (fun _ _ _ _ _ _ _ _ _ _ => false)
noncomputable def drawnK (call : KCaller) (lo hi : Key) (n : Nat) (ds : List DOp) : KDK :=
  @List.rec KDO (fun _ => KCaller → Key → Key → Nat → KDK) (fun _ _ _ _ _ _ fr h k => k fr h) (fun d _ ih call lo hi n => runKD d call lo hi n (ih call lo hi n)) (kDs ds) call lo hi n
noncomputable def frzAsK (args : List PA) (h : PHeap) (k : List PA → PHeap → Bool) : Bool :=
  @Option.rec (List PA × PHeap) (fun _ => Bool) false (fun p => @Prod.rec (List PA) PHeap (fun _ => Bool) (fun v h => @PHeap.rec (fun _ => Bool) (fun m n => k v ⟨m, n⟩) h) p) (frzAs deep args h)
noncomputable def frzAK (a : PA) (h : PHeap) (k : PA → Bool) : Bool :=
  @Option.rec (PA × PHeap) (fun _ => Bool) false (fun p => @Prod.rec PA PHeap (fun _ => Bool) (fun v _ => forceA v k) p) (frzA deep a h)
abbrev KX := VExit → Fr → PHeap → Bool
abbrev KEx := VCode → Fr → PHeap → KX → Bool
noncomputable def resK (fr : Fr) (h : PHeap) : List VRes → (List PC → Bool) → Bool :=
  @List.rec VRes (fun _ => (List PC → Bool) → Bool) (fun k => k []) (fun r _ ih k => @VRes.rec (fun _ => Bool)
    (fun key => evalK (kArg (.t key)) fr (fun v => @PA.rec (fun _ => Bool) (fun x => ih (fun l => k (x :: l))) (fun _ => false) v))
    (fun key => evalK (kArg (.t key)) fr (fun v => onV v fun x => onPtr x (fun b o => onCells h b (nthK (fun y => ih (fun l => k (.s y :: l))) o)) (fun _ => false) false))
    (fun key n => evalK (kArg (.t key)) fr (fun v => onV v fun x => onPtr x (fun b o => onCells h b (dropK (fun c => takeK n c (fun r => ih (fun l => k (.agg r :: l)))) o)) (fun _ => false) false)) r)
noncomputable def entryK : List PA → Key → Fr → (Fr → Bool) → Bool :=
  @List.rec PA (fun _ => Key → Fr → (Fr → Bool) → Bool) (fun _ fr k => k fr) (fun v _ ih n fr k => @Acc.rec (fun _ => Bool) (fun _ p => p v fr (fun fr => succK n (fun n => ih n fr k))) (acc n))
noncomputable def bodyK (F : Funcs) (ex : KEx) : KCaller := fun f args h k =>
  @Option.rec VFunc (fun _ => Bool) false (fun vf => @VFunc.rec (fun _ => Bool) (fun results body => entryK args .h Fr.empty (fun fr => go (ex body fr h (fun x fr h =>
    @VExit.rec (fun _ => Bool) (resK fr h results (fun l => k (oneOrTupP l) h)) (fun _ => false) (resK fr h results (fun l => k (oneOrTupP l) h)) x)))) vf) (F f)
noncomputable def aloneK (F : Funcs) (ex : KEx) (f : Nat) (xs : List PA) (k : PA → Bool) : Bool :=
  bodyK F ex f xs .empty (fun r g => frzAK r g (fun r => k r))
noncomputable def callK (F : Funcs) (K : Known) (ex : KEx) : KCaller := fun f args h k =>
  @Bool.rec (fun _ => Bool) (bodyK F ex f args h k)
    (frzAsK args h (fun xs h => @Option.rec PA (fun _ => Bool) (aloneK F ex f xs (fun r => go (k r h))) (fun r => k r h) (K.ans f xs))) (K.pure f)
noncomputable def nAllocK : List DOp → Nat := @List.rec DOp (fun _ => Nat) 0 (fun d _ ih => @DOp.rec (fun _ => Nat) (fun o _ => @VOper.rec (fun _ => Nat) (fun _ act _ _ => @KD.rec (fun _ => Nat) ih (Nat.add ih 1) ih ih (actKD act)) o) d)
noncomputable def succsK (n : Nat) : Key → (Key → Bool) → Bool := @Nat.rec (fun _ => Key → (Key → Bool) → Bool) (fun x k => k x) (fun _ ih x k => succK x (fun x => ih x k)) n
noncomputable def execK (call : KEx → KCaller) : Nat → KEx :=
  @Nat.rec (fun _ => KEx) (fun _ _ _ _ => false)
    (fun _ ih c fr h k => @VCode.rec (fun _ => KEx → Fr → PHeap → KX → Bool)
      (fun _ fr h k => k .normal fr h)
      (fun ops ih fr h k => opsK (call ih) ops fr h (fun fr h => go (k .normal fr h)))
      (fun ds ih fr h k => @PHeap.rec (fun _ => Bool) (fun mem next => (fun n => succsK n next (fun hi => drawnK (call ih) next hi n ds next [] fr ⟨mem, hi⟩ (fun fr h => go (k .normal fr h)))) (nAllocK ds)) h)
      (fun a b _ _ ih fr h k => go (ih a fr h (fun x fr h => @VExit.rec (fun _ => Bool) (go (ih b fr h k)) (fun i => k (.exit i) fr h) (k .ret fr h) x)))
      (fun c a b _ _ ih fr h k => evalK (kArg c) fr (fun v => onV v fun x => onBool x fun t => @Bool.rec (fun _ => Bool) (go (ih b fr h k)) (go (ih a fr h k)) t))
      (fun id c _ ih fr h k => go (ih c fr h (fun x fr h => @VExit.rec (fun _ => Bool) (k .normal fr h) (fun j => @Bool.rec (fun _ => Bool) (k (.exit j) fr h) (k .normal fr h) (Nat.beq j id)) (k .ret fr h) x)))
      (fun c _ ih fr h k => go (ih c fr h (fun x fr h => @VExit.rec (fun _ => Bool) (go (ih (.loop c) fr h k)) (fun i => k (.exit i) fr h) (k .ret fr h) x)))
      (fun id _ fr h k => k (.exit id) fr h)
      (fun _ fr h k => k .ret fr h)
      c ih fr h k)
noncomputable def runK (F : Funcs) (K : Known) (n f : Nat) (xs : List PA) (k : PA → Bool) : Bool := aloneK F (execK (callK F K) n) f xs k
end Go.Pv.K
end
section
namespace Go.Pv.K
open Go.Vm
open Go.Vm.Key (kn)
noncomputable def eqNs : List Nat → List Nat → Bool :=
  @List.rec Nat (fun _ => List Nat → Bool) (fun l => @List.rec Nat (fun _ => Bool) true (fun _ _ _ => false) l)
    (fun a _ ih l => @List.rec Nat (fun _ => Bool) false (fun b m _ => ite' (Nat.beq a b) (ih m) false) l)
noncomputable def eqI (a b : Int) : Bool :=
  @Int.rec (fun _ => Bool) (fun m => @Int.rec (fun _ => Bool) (fun n => Nat.beq m n) (fun _ => false) b) (fun m => @Int.rec (fun _ => Bool) (fun _ => false) (fun n => Nat.beq m n) b) a
noncomputable def eqK (a b : IntKind) : Bool :=
  @IntKind.rec (fun _ => Bool) (@IntKind.rec (fun _ => Bool) true false false false false false false false b) (@IntKind.rec (fun _ => Bool) false true false false false false false false b)
    (@IntKind.rec (fun _ => Bool) false false true false false false false false b) (@IntKind.rec (fun _ => Bool) false false false true false false false false b) (@IntKind.rec (fun _ => Bool) false false false false true false false false b)
    (@IntKind.rec (fun _ => Bool) false false false false false true false false b) (@IntKind.rec (fun _ => Bool) false false false false false false true false b) (@IntKind.rec (fun _ => Bool) false false false false false false false true b) a
noncomputable def eqB (a b : Bool) : Bool := @Bool.rec (fun _ => Bool) (notB b) b a
noncomputable def q_bool : Bool → PV → Bool := fun b y => @PV.casesOn (fun _ => Bool) y (fun c => eqB b c) (fun _ _ => false) (fun _ => false) (fun _ _ => false) false (fun _ _ _ _ _ => false) false (fun _ => false) false (fun _ _ _ => false) false (fun _ _ _ => false) (fun _ => false)
noncomputable def q_int : IntKind → Int → PV → Bool := fun k n y => @PV.casesOn (fun _ => Bool) y (fun _ => false) (fun k' m => ite' (eqK k k') (eqI n m) false) (fun _ => false) (fun _ _ => false) false (fun _ _ _ _ _ => false) false (fun _ => false) false (fun _ _ _ => false) false (fun _ _ _ => false) (fun _ => false)
noncomputable def q_str : List Nat → PV → Bool := fun l y => @PV.casesOn (fun _ => Bool) y (fun _ => false) (fun _ _ => false) (fun m => eqNs l m) (fun _ _ => false) false (fun _ _ _ _ _ => false) false (fun _ => false) false (fun _ _ _ => false) false (fun _ _ _ => false) (fun _ => false)
noncomputable def q_ptr : Key → Nat → PV → Bool := fun _ _ _ => false
noncomputable def q_nilp : PV → Bool := fun y => @PV.casesOn (fun _ => Bool) y (fun _ => false) (fun _ _ => false) (fun _ => false) (fun _ _ => false) (true) (fun _ _ _ _ _ => false) false (fun _ => false) false (fun _ _ _ => false) false (fun _ _ _ => false) (fun _ => false)
noncomputable def q_slice : Key → Nat → Nat → Nat → Option Nat → PV → Bool := fun _ _ _ _ _ _ => false
noncomputable def q_nils : PV → Bool := fun y => @PV.casesOn (fun _ => Bool) y (fun _ => false) (fun _ _ => false) (fun _ => false) (fun _ _ => false) false (fun _ _ _ _ _ => false) (true) (fun _ => false) false (fun _ _ _ => false) false (fun _ _ _ => false) (fun _ => false)
noncomputable def q_map : Key → PV → Bool := fun _ _ => false
noncomputable def q_nilm : PV → Bool := fun y => @PV.casesOn (fun _ => Bool) y (fun _ => false) (fun _ _ => false) (fun _ => false) (fun _ _ => false) false (fun _ _ _ _ _ => false) false (fun _ => false) (true) (fun _ _ _ => false) false (fun _ _ _ => false) (fun _ => false)
noncomputable def q_func : Nat → List (Key × Nat) → List (Key × Nat) → PV → Bool := fun _ _ _ _ => false
noncomputable def q_nilf : PV → Bool := fun y => @PV.casesOn (fun _ => Bool) y (fun _ => false) (fun _ _ => false) (fun _ => false) (fun _ _ => false) false (fun _ _ _ _ _ => false) false (fun _ => false) false (fun _ _ _ => false) (true) (fun _ _ _ => false) (fun _ => false)
noncomputable def q_lst : Nat → List (List PV) → Option Nat → (List (List PV) → Bool) → PV → Bool := fun es _ cap ih y => @PV.casesOn (fun _ => Bool) y (fun _ => false) (fun _ _ => false) (fun _ => false) (fun _ _ => false) false (fun _ _ _ _ _ => false) false (fun _ => false) false (fun _ _ _ => false) false (fun es' l' cap' => ite' (Nat.beq es es') (@Option.rec Nat (fun _ => Bool) (@Option.rec Nat (fun _ => Bool) (ih l') (fun _ => false) cap') (fun _ => false) cap) false) (fun _ => false)
noncomputable def q_rp : List PV → (List PV → Bool) → PV → Bool := fun _ ih y => @PV.casesOn (fun _ => Bool) y (fun _ => false) (fun _ _ => false) (fun _ => false) (fun _ _ => false) false (fun _ _ _ _ _ => false) false (fun _ => false) false (fun _ _ _ => false) false (fun _ _ _ => false) (fun l' => ih l')
noncomputable def q_nn : List (List PV) → Bool := fun l => @List.rec (List PV) (fun _ => Bool) true (fun _ _ _ => false) l
noncomputable def q_cc : List PV → List (List PV) → (List PV → Bool) → (List (List PV) → Bool) → List (List PV) → Bool := fun _ _ ih1 ih2 l => @List.rec (List PV) (fun _ => Bool) false (fun b m _ => ite' (ih1 b) (ih2 m) false) l
noncomputable def q_n : List PV → Bool := fun l => @List.rec PV (fun _ => Bool) true (fun _ _ _ => false) l
noncomputable def q_c : PV → List PV → (PV → Bool) → (List PV → Bool) → List PV → Bool := fun _ _ ih1 ih2 l => @List.rec PV (fun _ => Bool) false (fun b m _ => ite' (ih1 b) (ih2 m) false) l
noncomputable def eqV (x : PV) : PV → Bool := @PV.rec (fun _ => PV → Bool) (fun _ => List (List PV) → Bool) (fun _ => List PV → Bool) q_bool q_int q_str q_ptr q_nilp q_slice q_nils q_map q_nilm q_func q_nilf q_lst q_rp q_nn q_cc q_n q_c x
noncomputable def eqLL (x : List (List PV)) : List (List PV) → Bool := @PV.rec_1 (fun _ => PV → Bool) (fun _ => List (List PV) → Bool) (fun _ => List PV → Bool) q_bool q_int q_str q_ptr q_nilp q_slice q_nils q_map q_nilm q_func q_nilf q_lst q_rp q_nn q_cc q_n q_c x
noncomputable def eqVs (x : List PV) : List PV → Bool := @PV.rec_2 (fun _ => PV → Bool) (fun _ => List (List PV) → Bool) (fun _ => List PV → Bool) q_bool q_int q_str q_ptr q_nilp q_slice q_nils q_map q_nilm q_func q_nilf q_lst q_rp q_nn q_cc q_n q_c x
noncomputable def eqC (x y : PC) : Bool := @PC.rec (fun _ => Bool) (fun a => @PC.rec (fun _ => Bool) (fun b => eqV a b) (fun _ => false) y) (fun l => @PC.rec (fun _ => Bool) (fun _ => false) (fun m => eqVs l m) y) x
noncomputable def eqCs : List PC → List PC → Bool :=
  @List.rec PC (fun _ => List PC → Bool) (fun l => @List.rec PC (fun _ => Bool) true (fun _ _ _ => false) l)
    (fun a _ ih l => @List.rec PC (fun _ => Bool) false (fun b m _ => ite' (eqC a b) (ih m) false) l)
noncomputable def eqA (x y : PA) : Bool := @PA.rec (fun _ => Bool) (fun a => @PA.rec (fun _ => Bool) (fun b => eqC a b) (fun _ => false) y) (fun l => @PA.rec (fun _ => Bool) (fun _ => false) (fun m => eqCs l m) y) x
noncomputable def eqAs : List PA → List PA → Bool :=
  @List.rec PA (fun _ => List PA → Bool) (fun l => @List.rec PA (fun _ => Bool) true (fun _ _ _ => false) l)
    (fun a _ ih l => @List.rec PA (fun _ => Bool) false (fun b m _ => ite' (eqA a b) (ih m) false) l)
noncomputable def getT {α : Type} : Key → Tr α → Option α :=
  @Key.rec (fun _ => Tr α → Option α)
    (fun t => @Tr.rec α (fun _ => Option α) none (fun _ v _ _ _ => v) t)
    (fun _ ih t => @Tr.rec α (fun _ => Option α) none (fun l _ _ _ _ => ih l) t)
    (fun _ ih t => @Tr.rec α (fun _ => Option α) none (fun _ _ r _ _ => ih r) t)
abbrev Ent := List (List PA × PA)
noncomputable def findE (xs : List PA) : Ent → Option PA :=
  @List.rec (List PA × PA) (fun _ => Option PA) none (fun q _ ih => @Prod.rec (List PA) PA (fun _ => Option PA) (fun ys r => @Bool.rec (fun _ => Option PA) ih (some r) (eqAs xs ys)) q)
noncomputable def known (pure : Tr Bool) (tab : Tr Ent) : Known where
  pure f := @Option.rec Bool (fun _ => Bool) false (fun b => b) (getT (kn f) pure)
  ans f xs := @Option.rec Ent (fun _ => Option PA) none (fun l => findE xs l) (getT (kn f) tab)
end Go.Pv.K
end

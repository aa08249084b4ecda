/- A part of the proof that the law CountTower answers true. No condition. -/
import Derived.Test.YtdhdjlocnjailaaGreatBase
import Derived.Laws.AppendOwn
import Derived.Laws.CopyRow
import Derived.Laws.MakeOwn
import Derived.Laws.StructEq
import Derived.Laws.Concat
set_option linter.unusedVariables false
set_option linter.unusedSimpArgs false
set_option linter.unusedSectionVars false
section
namespace Go.Vm
open Key (kn)
def cSV : Value → Option SV
  | .bool b => some (.bool b)
  | .int k n => some (.int k n)
  | .string s => some (.str (s.data.toList.map UInt8.toNat))
  | .pointer none => some .nilp
  | .slice none 0 0 => some .nils
  | .map none => some .nilm
  | .nilFunc => some .nilf
  | _ => none
def cSVs : List Value → Option (List SV)
  | [] => some []
  | v :: l => match cSV v with
    | some x => match cSVs l with
      | some xs => some (x :: xs)
      | none => none
    | none => none
def cCV : Value → Option CV
  | .agg cs => match cSVs cs.toList with
    | some l => some (.agg l)
    | none => none
  | v => match cSV v with
    | some x => some (.s x)
    | none => none
def cX : Operand → Option VX
  | .tmp t => some (.t (kn t))
  | .const v => match cCV v with
    | some x => some (.c (.v x))
    | none => none
  | .func f => some (.c (.v (.s (.func f [] []))))
  | .global _ => none
def cXs : List Operand → Option (List VX)
  | [] => some []
  | x :: l => match cX x with
    | some y => match cXs l with
      | some ys => some (y :: ys)
      | none => none
    | none => none
section
variable (P : Program)
def shapeOf (t : TypeId) : Option (Option Nat) :=
  match P.underlying t, P.info? t with
  | some (.struct _), some i => some (some i.size)
  | some (.array _ _), some i => some (some i.size)
  | some _, some _ => some none
  | _, _ => none
def sizeT (t : TypeId) : Option Nat := (P.info? t).map (·.size)
def bytesT (t : TypeId) : Option Nat := (P.info? t).map (·.bytes)
def zeroT (t : TypeId) : Option CV :=
  match P.info? t with
  | some i => match i.zero with
    | some v => cCV v
    | none => none
  | none => none
def zerosT (t : TypeId) : Option (List SV) := (zeroT P t).map CV.cells
def leavesF (lv : TypeId → Option (List LeafK)) : List Field → Nat → Option (List LeafK)
  | [], _ => some []
  | f :: fs, off =>
    if f.name ≠ "_" ∧ f.offset = off ∧ (shapeOf P f.type).isSome then
      match lv f.type with
      | some l => if sizeT P f.type = some l.length then (match leavesF lv fs (off + l.length) with
        | some q => some (l ++ q)
        | none => none) else none
      | none => none
    else none
def repl (l : List LeafK) : Nat → List LeafK
  | 0 => []
  | n + 1 => l ++ repl l n
def leaves : Nat → TypeId → Option (List LeafK)
  | 0, _ => none
  | d + 1, t =>
    match P.underlying t with
    | some .bool => some [.bool]
    | some (.int _) => some [.int]
    | some .string => some [.str]
    | some (.struct fs) => if P.stoodInHeld t then none else leavesF P (leaves d) fs.toList 0
    | some (.array n e) =>
      if (shapeOf P e).isSome ∧ n ≤ 64 then
        match leaves d e with
        | some l => if sizeT P e = some l.length then some (repl l n) else none
        | none => none
      else none
    | _ => none
def keyKind (t : TypeId) : Option KeyK :=
  match shapeOf P t, leaves P 20 t with
  | some none, some [k] => some (.one k)
  | some (some _), some ks => some (.agg ks)
  | _, _ => none
def placesBy (pl : Nat → Option (Nat × Nat)) : List (Nat × Operand) → Option (List (Nat × Nat))
  | [] => some []
  | (i, _) :: l => match pl i with
    | some p => match placesBy pl l with
      | some r => some (p :: r)
      | none => none
    | none => none
def eqKind (t : TypeId) : Option EqK :=
  match P.underlying t with
  | some .bool => some .bool
  | some (.pointer _) => some .ptr
  | some (.slice _) => some .slice
  | some (.map _ _) => some .map
  | some (.func _ _ _) => some .func
  | some (.struct _) => if P.eqGuardType P.depth t then none else (leaves P 20 t).map .agg
  | some (.array _ _) => if P.eqGuardType P.depth t then none else (leaves P 20 t).map .agg
  | _ => none
def cCall (c : Call) : Option (VAct × List Operand) :=
  match c.callee with
  | .value (.func f) => match P.funcs[f]? with
    | some fn => if fn.name == "runtime.NumGoroutine" || fn.body.isNone then none else some (.call f, c.args.toList)
    | none => none
  | .value x => some (.callv, x :: c.args.toList)
  | .invoke _ _ => none
  | .builtin b =>
    match b, (c.argTypes[0]?).bind P.underlying with
    | .len, some .string => some (.op .lenstr, c.args.toList)
    | .len, some (.slice _) => some (.op .lens, c.args.toList)
    | .len, some (.array n _) => some (.op (.lenarr n), c.args.toList)
    | .len, some (.map _ _) => some (.op .lenm, c.args.toList)
    | .cap, some (.slice _) => some (.op .cap, c.args.toList)
    | .min, _ => some (.op (.minmax false), c.args.toList)
    | .max, _ => some (.op (.minmax true), c.args.toList)
    | .append, some (.slice e) =>
      match (c.argTypes[1]?).bind P.underlying, sizeT P e, bytesT P e, zerosT P e with
      | some (.slice _), some n, some k, some z => if k = 0 ∨ z.length ≠ n then none else some (.op (.append n k), c.args.toList)
      | some .string, some n, some k, some z => if k = 0 ∨ z.length ≠ n then none else some (.op (.append n k), c.args.toList)
      | _, _, _, _ => none
    | .copy, some (.slice e) => (sizeT P e).map fun n => (.op (.copy n), c.args.toList)
    | _, _ => none
def optFlags (x : Operand) (lo hi mx : Option Operand) (k : SlK) : Option (VAct × List Operand) :=
  if mx.isSome && hi.isNone then none else some (.op (.slice k lo.isSome hi.isSome mx.isSome), x :: (lo.toList ++ (hi.toList ++ mx.toList)))
def cOp : Op → Option (VAct × List Operand)
  | .move x => some (.op .mov, [x])
  | .assign x => some (.op .mov, [x])
  | .pick c a b => some (.op .pick, [c, a, b])
  | .alloc e => (zerosT P e).map fun z => (.op (.newz z), [])
  | .box e v => (sizeT P e).map fun n => (.op (.box n), [v])
  | .build t parts =>
    match zerosT P t, P.underlying t with
    | some z, some (.struct fs) => match fs.toList.mapM (fun f => (P.info? f.type).map fun i => (f.offset, i.size)) with
      | some pls => (placesBy (fun i => pls[i]?) parts.toList).map fun ps => (.op (.build z ps), parts.toList.map (·.2))
      | none => none
    | some z, some (.array _ e) => match sizeT P e with
      | some n => (placesBy (fun i => some (i * n, n)) parts.toList).map fun ps => (.op (.build z ps), parts.toList.map (·.2))
      | none => none
    | _, _ => none
  | .buildSlice t len parts =>
    match P.underlying t with
    | some (.slice e) => match zerosT P e, sizeT P e with
      | some z, some n => if len * n ≤ 16777216 ∧ z.length = n ∧ 0 < n then (placesBy (fun i => some (i * n, n)) parts.toList).map fun ps => (.op (.bslice n len z ps), parts.toList.map (·.2)) else none
      | _, _ => none
    | _ => none
  | .insert t m k v => match P.underlying t with
    | some (.map kt _) => (keyKind P kt).map fun ks => (.op (.mapset ks), [m, k, v])
    | _ => none
  | .mapUpdate t m k v => match P.underlying t with
    | some (.map kt _) => (keyKind P kt).map fun ks => (.op (.mapset ks), [m, k, v])
    | _ => none
  | .load t a => match shapeOf P t with
    | some none => some (.op .load1, [a])
    | some (some n) => some (.op (.loadn n), [a])
    | none => none
  | .store t a v => (sizeT P t).map fun n => (.op (.store n), [a, v])
  | .nilCheck x => some (.op .nilchk, [x])
  | .binOp b t x y _ =>
    match P.underlying t with
    | some (.int _) => some (.op (.bin b), [x, y])
    | some .string => some (.op (.bin b), [x, y])
    | _ => match b, eqKind P t with
      | .eql, some k => some (.op (.eq false k), [x, y])
      | .neq, some k => some (.op (.eq true k), [x, y])
      | _, _ => none
  | .unOp u _ x => some (.op (.un u), [x])
  | .convert s d x => match P.underlying s, P.underlying d with
    | some (.int _), some (.int k) => some (.op (.conv k), [x])
    | _, _ => none
  | .makeFunc fn first cap => match fn with
    | .func f => some (.op (.mkfunc f first.size), first.toList ++ cap.toList)
    | _ => none
  | .makeMap _ none => some (.op .mkmap, [])
  | .makeMap t (some x) => match P.underlying t with
    | some (.map _ _) => some (.op .mkmap, [x])
    | _ => none
  | .makeSlice t l c => match P.underlying t with
    | some (.slice e) => match zerosT P e, sizeT P e, bytesT P e with
      | some z, some n, some k => if z.length = n ∧ 0 < n then some (.op (.mkslice n k z), [l, c]) else none
      | _, _, _ => none
    | _ => none
  | .slice t x lo hi mx => match P.underlying t with
    | some .string => optFlags x lo hi mx .str
    | some (.slice e) => match sizeT P e with
      | some n => optFlags x lo hi mx (.slice n)
      | none => none
    | some (.array n e) => match sizeT P e with
      | some k => optFlags x lo hi mx (.arr n k)
      | none => none
    | _ => none
  | .fieldAddr t x f => match P.underlying t with
    | some (.struct fs) => match fs[f]? with
      | some fd => match sizeT P fd.type with
        | some n => if n = 0 then none else some (.op (.faddr fd.offset), [x])
        | none => none
      | none => none
    | _ => none
  | .field t x f => match P.underlying t with
    | some (.struct fs) => match fs[f]? with
      | some fd => match shapeOf P fd.type with
        | some s => some (.op (.field fd.offset s), [x])
        | none => none
      | none => none
    | _ => none
  | .indexAddr t x i => match P.underlying t with
    | some (.array n e) => (sizeT P e).map fun k => (.op (.iarr n k), [x, i])
    | some (.slice e) => (sizeT P e).map fun k => (.op (.isl k), [x, i])
    | _ => none
  | .index t x i => match P.underlying t with
    | some (.array n e) => match sizeT P e, shapeOf P e with
      | some k, some s => some (.op (.idx n k s), [x, i])
      | _, _ => none
    | some .string => some (.op .sidx, [x, i])
    | _ => none
  | .lookup t x i ok => match P.underlying t with
    | some (.map kt vt) => match keyKind P kt, zeroT P vt with
      | some ks, some z => some (.op (.lookup ks z ok), [x, i])
      | _, _ => none
    | _ => none
  | .extract t i => some (.op (.extract i), [t])
  | .call c => cCall P c
  | .range t x => match P.underlying t with
    | some (.map _ _) => some (.op .mrange, [x])
    | _ => none
  | .next i false => some (.op .mnext, [i])
  | .entry i => some (.op .mentry, [i])
  | _ => none
def cGuard (ops : Array Oper) (o : Oper) : Option (Option (Key × Bool)) :=
  match o.guard with
  | none => some none
  | some (j, b) => match (ops[j]?).bind (·.dst) with
    | some t => some (some (kn t, b))
    | none => none
def dstOk (N : Nat) (o : Oper) : Bool := match o.dst with
  | some d => Nat.blt d N
  | none => true
def cOper (N : Nat) (ops : Array Oper) (o : Oper) : Option VOper :=
  if dstOk N o then
    match cGuard ops o with
    | some g => match cOp P o.op with
      | some (a, xs) => match cXs xs with
        | some ys => some ⟨o.dst.map kn, a, ys, g⟩
        | none => some ⟨o.dst.map kn, .op .bad, [], g⟩
      | none => some ⟨o.dst.map kn, .op .bad, [], g⟩
    | none => none
  else none
def cOpers (N : Nat) (ops : Array Oper) : List Oper → Option (List VOper)
  | [] => some []
  | o :: l => match cOper P N ops o with
    | some x => match cOpers N ops l with
      | some xs => some (x :: xs)
      | none => none
    | none => none
def direct (o : Oper) : List Nat := (o.after.toList.filter (Region.binds .any)).map (·.on)
def maskOf (ms : List Nat) : List Nat → Nat
  | [] => 0
  | k :: l => 2 ^ k ||| ms.getD k 0 ||| maskOf ms l
def masksFrom : List (List Nat) → List Nat → List Nat
  | [], ms => ms
  | d :: r, ms => masksFrom r (ms ++ [maskOf ms d])
def masks (ops : List Oper) : List Nat := masksFrom (ops.map direct) []
def before (ms : List Nat) (i j : Nat) : Bool := (ms.getD j 0).testBit i
def lateOrder (ms : List Nat) (eff : List Nat) (n : Nat) : List Nat :=
  let r := eff.foldl (fun acc j => acc ++ (List.range n).filter (fun i => (before ms i j || i == j) && !acc.contains i)) []
  r ++ (List.range n).filter (fun i => !r.contains i)
def looks (o : VOper) : List Key := (o.args.filterMap fun | .t k => some k | .c _ => none) ++ (match o.guard with | some (k, _) => [k] | none => [])
def apartV (x y : VOper) : Bool :=
  (match x.dst with | some d => !(looks y).contains d | none => true) && (match y.dst with | some d => !(looks x).contains d | none => true)
def dstsOf (l : List VOper) : List Key := l.filterMap (·.dst)
def distinct : List Key → Bool
  | [] => true
  | k :: l => !l.contains k && distinct l
def effIdx (vs : List VOper) : List Nat := (vs.zipIdx.filter fun p => p.1.act.kind = .effect).map (·.2)
def isEff (vs : List VOper) (i : Nat) : Bool := match vs[i]? with
  | some o => o.act.kind = .effect
  | none => false
def distinctL : List VOper → Bool
  | [] => true
  | o :: l => (match o.dst with | some d => l.all (fun p => p.dst != some d) | none => true) && distinctL l
def pairOk (ms : List Nat) (vs : List VOper) (i j : Nat) : Bool :=
  before ms i j || before ms j i || (match vs[i]?, vs[j]? with
    | some x, some y => apartV x y
    | _, _ => true)
def ordOk (ms : List Nat) (vs : List VOper) : List Nat → Bool
  | [] => true
  | i :: l => !l.contains i && l.all (fun j => !before ms j i && (!isEff vs j || before ms i j)) && ordOk ms vs l
def drawnOk (ms : List Nat) (ops : List Oper) (vs : List VOper) (ord : List Nat) : Bool :=
  let n := vs.length
  distinctL vs &&
  ((List.range ops.length).all fun j => match ops[j]? with
    | some o => (direct o).all fun k => Nat.blt k j
    | none => true) &&
  ((List.range n).all fun i => (List.range n).all fun j => Nat.ble j i || pairOk ms vs i j) &&
  (ord.all fun i => Nat.blt i n) && ((List.range n).all fun i => ord.contains i) &&
  ordOk ms vs ord
def chkOf (ms : List Nat) (eff : List Nat) (i : Nat) : Nat := (eff.filter fun j => before ms j i).length
def dopsOf (ms : List Nat) (eff : List Nat) (vs : List VOper) : List Nat → Option (List DOp)
  | [] => some []
  | i :: l => match vs[i]? with
    | some o => match dopsOf ms eff vs l with
      | some r => some (⟨o, chkOf ms eff i⟩ :: r)
      | none => none
    | none => none
def cRegion (N : Nat) (ops : Array Oper) (draw : Bool) : Option VCode :=
  match cOpers P N ops ops.toList with
  | some vs =>
    if draw then
      let ms := masks ops.toList
      let eff := effIdx vs
      let ord := lateOrder ms eff vs.length
      if drawnOk ms ops.toList vs ord then (dopsOf ms eff vs ord).map .drawn else none
    else some (.region vs)
  | none => none
def cCode (N : Nat) : Code → Option VCode
  | .skip => some .skip
  | .region _ ops draw => cRegion P N ops draw
  | .seq a b => match cCode N a, cCode N b with
    | some x, some y => some (.seq x y)
    | _, _ => none
  | .cond c a b => match cX c, cCode N a, cCode N b with
    | some c, some x, some y => some (.cond c x y)
    | _, _, _ => none
  | .block id c => (cCode N c).map (.block id)
  | .loop c => (cCode N c).map .loop
  | .exit id => some (.exit id)
  | .ret => some .ret
  | _ => none
def cRes : ResultVar → Option VRes
  | .tmp t => some (.tmp (kn t))
  | .cell a t => match shapeOf P t with
    | some none => some (.cell1 (kn a))
    | some (some n) => some (.celln (kn a) n)
    | none => none
def cRess : List ResultVar → Option (List VRes)
  | [] => some []
  | r :: l => match cRes P r with
    | some x => match cRess l with
      | some xs => some (x :: xs)
      | none => none
    | none => none
def cFunc (fn : Func) : Option VFunc :=
  if fn.name == "runtime.NumGoroutine" then none else
  match fn.body with
  | some c => match cCode P fn.ntmps c, cRess P fn.results.toList with
    | some v, some rs => some ⟨rs, v⟩
    | _, _ => none
  | none => none
def funcsOf : Funcs := fun f => (P.funcs[f]?).bind (cFunc P)
end
end Go.Vm
end
section
namespace Go.Vm
open Key (kn)
structure Loc where
  blk : Nat
  off : Nat
  tot : Nat
abbrev Emb := Key → Option Loc
def Le (φ φ' : Emb) : Prop := ∀ b l, φ b = some l → φ' b = some l
theorem Le.refl (φ : Emb) : Le φ φ := fun _ _ h => h
theorem Le.trans {φ φ' φ'' : Emb} (h : Le φ φ') (h' : Le φ' φ'') : Le φ φ'' := fun b l e => h' b l (h b l e)
inductive All₂ {α β : Type} (R : α → β → Prop) : List α → List β → Prop where
  | nil : All₂ R [] []
  | cons {a : α} {b : β} {l : List α} {m : List β} (h : R a b) (t : All₂ R l m) : All₂ R (a :: l) (b :: m)
attribute [simp] All₂.nil
def PRel (φ : Emb) (p : Key × Nat) (v : Value) : Prop := ∃ l, φ p.1 = some l ∧ v = .pointer (some ⟨l.blk, p.2 + l.off, none⟩)
def SRel (φ : Emb) : SV → Value → Prop
  | .bool b, v => v = .bool b
  | .int k n, v => v = .int k n
  | .str s, v => (∀ n ∈ s, n < 256) ∧ v = .string ⟨(s.map UInt8.ofNat).toArray⟩
  | .ptr b o, v => PRel φ (b, o) v
  | .nilp, v => v = .pointer none
  | .slice b o len es cap, v => ∃ a c, v = .slice (some a) len c ∧ len ≤ c ∧ (∀ k, cap = some k → c = k) ∧
      (c = 0 ∨ ∃ l, φ b = some l ∧ a = ⟨l.blk, o + l.off, none⟩ ∧ (cap = none → o + l.off + c * es = l.tot))
  | .nils, v => v = .slice none 0 0
  | .map b, v => ∃ l, φ b = some l ∧ v = .map (some l.blk)
  | .nilm, v => v = .map none
  | .func f fs cs, v => ∃ vs us : List Value, v = .func (.func f) vs.toArray us.toArray ∧ All₂ (PRel φ) fs vs ∧ All₂ (PRel φ) cs us
  | .nilf, v => v = .nilFunc
def CRel (φ : Emb) : CV → Value → Prop
  | .s x, v => SRel φ x v
  | .agg cs, v => ∃ vs : List Value, v = .agg vs.toArray ∧ All₂ (SRel φ) cs vs
def ARel (φ : Emb) : AV → Value → Prop
  | .v x, v => CRel φ x v
  | .tup xs, v => ∃ vs : List Value, v = .tuple vs.toArray ∧ All₂ (CRel φ) xs vs
theorem forall₂_mono {α β : Type} {R R' : α → β → Prop} {l : List α} {m : List β} (h : All₂ R l m) (hr : ∀ a b, R a b → R' a b) : All₂ R' l m := by
  induction h with
  | nil => exact .nil
  | cons h _ ih => exact .cons (hr _ _ h) ih
theorem forall₂_len {α β : Type} {R : α → β → Prop} {l : List α} {m : List β} (h : All₂ R l m) : l.length = m.length := by
  induction h with
  | nil => rfl
  | cons _ _ ih => simp [ih]
theorem forall₂_append {α β : Type} {R : α → β → Prop} {l l' : List α} {m m' : List β} (h : All₂ R l m) (h' : All₂ R l' m') : All₂ R (l ++ l') (m ++ m') := by
  induction h with
  | nil => exact h'
  | cons h _ ih => exact .cons h ih
theorem forall₂_take {α β : Type} {R : α → β → Prop} (n : Nat) {l : List α} {m : List β} (h : All₂ R l m) : All₂ R (l.take n) (m.take n) := by
  induction h generalizing n with
  | nil => simp
  | cons h _ ih => cases n with
    | zero => simp
    | succ n => exact .cons h (ih n)
theorem forall₂_drop {α β : Type} {R : α → β → Prop} (n : Nat) {l : List α} {m : List β} (h : All₂ R l m) : All₂ R (l.drop n) (m.drop n) := by
  induction h generalizing n with
  | nil => simp
  | cons h t ih => cases n with
    | zero => exact .cons h t
    | succ n => exact ih n
theorem forall₂_get {α β : Type} {R : α → β → Prop} {l : List α} {m : List β} (h : All₂ R l m) (i : Nat) {a : α} (e : l[i]? = some a) : ∃ b, m[i]? = some b ∧ R a b := by
  induction h generalizing i with
  | nil => simp at e
  | cons h _ ih => cases i with
    | zero => simp at e; subst e; exact ⟨_, rfl, h⟩
    | succ i => exact ih i (by simpa using e)
theorem forall₂_of_get {α β : Type} {R : α → β → Prop} : ∀ {l : List α} {m : List β}, l.length = m.length → (∀ (i : Nat) a, l[i]? = some a → ∃ b, m[i]? = some b ∧ R a b) → All₂ R l m
  | [], [], _, _ => .nil
  | [], _ :: _, e, _ => by simp at e
  | _ :: _, [], e, _ => by simp at e
  | a :: l, b :: m, e, h => by
    obtain ⟨b', hb, hr⟩ := h 0 a rfl
    simp at hb; subst hb
    exact .cons hr (forall₂_of_get (by simpa using e) fun i a hi => by simpa using h (i + 1) a (by simpa using hi))
theorem forall₂_map {α β γ : Type} {R : α → β → Prop} (f : γ → α) (g : γ → β) (l : List γ) (h : ∀ x ∈ l, R (f x) (g x)) : All₂ R (l.map f) (l.map g) := by
  induction l with
  | nil => exact .nil
  | cons x l ih => exact .cons (h x (by simp)) (ih fun y hy => h y (by simp [hy]))
theorem PRel.mono {φ φ' : Emb} (h : Le φ φ') {p : Key × Nat} {v : Value} (r : PRel φ p v) : PRel φ' p v := by
  obtain ⟨l, e, hv⟩ := r; exact ⟨l, h _ _ e, hv⟩
theorem SRel.mono {φ φ' : Emb} (h : Le φ φ') {s : SV} {v : Value} (r : SRel φ s v) : SRel φ' s v := by
  cases s with
  | ptr b o => exact PRel.mono h r
  | slice b o len es cap =>
    obtain ⟨a, c, hv, hl, hk, hc⟩ := r
    refine ⟨a, c, hv, hl, hk, hc.imp id ?_⟩
    rintro ⟨l, e, ha, ht⟩; exact ⟨l, h _ _ e, ha, ht⟩
  | map b => obtain ⟨l, e, hv⟩ := r; exact ⟨l, h _ _ e, hv⟩
  | func f fs cs =>
    obtain ⟨vs, us, hv, h1, h2⟩ := r
    exact ⟨vs, us, hv, forall₂_mono h1 fun _ _ => PRel.mono h, forall₂_mono h2 fun _ _ => PRel.mono h⟩
  | _ => exact r
theorem CRel.mono {φ φ' : Emb} (h : Le φ φ') {s : CV} {v : Value} (r : CRel φ s v) : CRel φ' s v := by
  cases s with
  | s x => exact SRel.mono h r
  | agg cs => obtain ⟨vs, hv, hr⟩ := r; exact ⟨vs, hv, forall₂_mono hr fun _ _ => SRel.mono h⟩
theorem ARel.mono {φ φ' : Emb} (h : Le φ φ') {s : AV} {v : Value} (r : ARel φ s v) : ARel φ' s v := by
  cases s with
  | v x => exact CRel.mono h r
  | tup xs => obtain ⟨vs, hv, hr⟩ := r; exact ⟨vs, hv, forall₂_mono hr fun _ _ => CRel.mono h⟩
theorem SRel.one {φ : Emb} {s : SV} {v : Value} (r : SRel φ s v) : v.oneCell' = true := by
  cases s <;> simp only [SRel, PRel] at r
  case str => obtain ⟨_, rfl⟩ := r; rfl
  case ptr => obtain ⟨_, _, rfl⟩ := r; rfl
  case slice => obtain ⟨_, _, rfl, _⟩ := r; rfl
  case map => obtain ⟨_, _, rfl⟩ := r; rfl
  case func => obtain ⟨_, _, rfl, _⟩ := r; rfl
  all_goals (subst r; rfl)
theorem cells_of_one {v : Value} (h : v.oneCell' = true) : v.cells = #[v] := by cases v <;> first | rfl | simp [Value.oneCell'] at h
theorem CRel.cells {φ : Emb} {x : CV} {v : Value} (r : CRel φ x v) : All₂ (SRel φ) x.cells v.cells.toList := by
  cases x with
  | s x => rw [cells_of_one (SRel.one r)]; exact .cons r .nil
  | agg cs => obtain ⟨vs, rfl, hr⟩ := r; exact hr
theorem all_one {φ : Emb} {l : List SV} {vs : List Value} (h : All₂ (SRel φ) l vs) : ∀ v ∈ vs, v.oneCell' = true := by
  induction h with
  | nil => simp
  | cons h _ ih => intro v hv; rcases List.mem_cons.1 hv with rfl | hv; exact SRel.one h; exact ih v hv
def BRel (φ : Emb) (l : Loc) (own : Bool) : Body → Obj → Prop
  | .cells c m, o => ∃ arr e fr, o = .cells arr e fr ∧ arr.size = l.tot ∧ l.off + m ≤ arr.size ∧ (own = true → fr = (0, 0)) ∧
      ∀ i, i < m → ∃ s v, c.get (kn i) = some s ∧ arr[l.off + i]? = some v ∧ SRel φ s v
  | .map es, o => ∃ arr : Array MapEntry, o = .map arr arr.size ∧ (∀ i (h : i < arr.size), arr[i].born = i) ∧
      All₂ (fun p (e : MapEntry) => CRel φ p.1 e.key ∧ CRel φ p.2 e.val) es arr.toList
  | .iter m n st, o => l.off = 0 ∧ ∃ l', φ m = some l' ∧ o = .mapIter (some l'.blk) n (if st = 0 then #[] else #[0]) n
  | .siter s pos, o => (∀ n ∈ s, n < 256) ∧ o = .stringIter ⟨(s.map UInt8.ofNat).toArray⟩ pos
theorem BRel.mono {φ φ' : Emb} (h : Le φ φ') {l : Loc} {own : Bool} {b : Body} {o : Obj} (r : BRel φ l own b o) : BRel φ' l own b o := by
  cases b with
  | cells c m =>
    obtain ⟨arr, e, fr, ho, hs, hm, hf, hc⟩ := r
    exact ⟨arr, e, fr, ho, hs, hm, hf, fun i hi => by obtain ⟨s, v, h1, h2, h3⟩ := hc i hi; exact ⟨s, v, h1, h2, h3.mono h⟩⟩
  | map es =>
    obtain ⟨arr, ho, hb, hr⟩ := r
    exact ⟨arr, ho, hb, forall₂_mono hr fun _ _ hh => ⟨hh.1.mono h, hh.2.mono h⟩⟩
  | iter m n st => obtain ⟨h0, l', e, ho⟩ := r; exact ⟨h0, l', h _ _ e, ho⟩
  | siter s pos => exact r
theorem BRel.unown {φ : Emb} {l : Loc} {own : Bool} {b : Body} {o : Obj} (r : BRel φ l own b o) : BRel φ l false b o := by
  cases b with
  | cells c m =>
    obtain ⟨arr, e, fr, ho, hs, hm, _, hc⟩ := r
    exact ⟨arr, e, fr, ho, hs, hm, by simp, hc⟩
  | _ => exact r
def Body.size : Body → Nat
  | .cells _ m => m
  | _ => 0
abbrev Mem := Key → Option Blk
structure Sim (φ : Emb) (g : Mem) (nx : Nat) (w : World) : Prop where
  blk : ∀ b x l, g b = some x → φ b = some l → ∃ o, w.heap[l.blk]? = some o ∧ BRel φ l x.own x.body o
  sep : ∀ b x l b' x' l', g b = some x → φ b = some l → g b' = some x' → φ b' = some l' → l.blk = l'.blk → b ≠ b' → x.own = true →
    b' ∈ x.anc ∧ l'.off + x'.body.size ≤ l.off + x.body.size ∧ x'.own = false
  fresh : ∀ b : Key, nx ≤ b.toNat → φ b = none
structure Ext (φ : Emb) (g : Mem) (lo : Nat) (w : World) (φ' : Emb) (g' : Mem) (hi : Nat) (w' : World) : Prop where
  le : Le φ φ'
  only : ∀ b : Key, φ b = none → (b.toNat < lo ∨ hi ≤ b.toNat) → φ' b = none
  nx : lo ≤ hi
  size : w.heap.size ≤ w'.heap.size
  frame : ∀ r o, w.heap[r]? = some o → (∀ b x l, g b = some x → x.own = true → φ b = some l → l.blk ≠ r) → w'.heap[r]? = some o
  own : ∀ b x l, g' b = some x → x.own = true → φ' b = some l → l.blk < w.heap.size → ∃ b0 x0 l0, g b0 = some x0 ∧ x0.own = true ∧ φ b0 = some l0 ∧ l0.blk = l.blk
  new : ∀ b l, φ b = none → φ' b = some l → l.blk < w.heap.size → ∃ b0 x0 l0, g b0 = some x0 ∧ x0.own = true ∧ φ b0 = some l0 ∧ l0.blk = l.blk
  os : w'.os = w.os ∧ w'.output = w.output
theorem Ext.refl (φ : Emb) (g : Mem) (nx : Nat) (w : World) : Ext φ g nx w φ g nx w :=
  ⟨Le.refl φ, fun _ h _ => h, Nat.le_refl _, Nat.le_refl _, fun _ _ h _ => h, fun b x l h1 h2 h3 _ => ⟨b, x, l, h1, h2, h3, rfl⟩, fun b l h1 h2 _ => (by rw [h1] at h2; cases h2), rfl, rfl⟩
theorem Ext.trans {φ : Emb} {g : Mem} {nx : Nat} {w : World} {φ' : Emb} {g' : Mem} {nx' : Nat} {w' : World} {φ'' : Emb} {g'' : Mem} {nx'' : Nat} {w'' : World}
    (h : Ext φ g nx w φ' g' nx' w') (h' : Ext φ' g' nx' w' φ'' g'' nx'' w'') : Ext φ g nx w φ'' g'' nx'' w'' where
  le := h.le.trans h'.le
  only b hb hr := by
    have h1 := h.nx
    have h2 := h'.nx
    exact h'.only b (h.only b hb (by omega)) (by omega)
  nx := Nat.le_trans h.nx h'.nx
  size := Nat.le_trans h.size h'.size
  frame r o hr hn := by
    refine h'.frame r o (h.frame r o hr hn) fun b x l h1 h2 h3 h4 => ?_
    have hlt : r < w.heap.size := (Array.getElem?_eq_some_iff.1 hr).1
    obtain ⟨b0, x0, l0, e1, e2, e3, e4⟩ := h.own b x l h1 h2 h3 (h4 ▸ hlt)
    exact hn b0 x0 l0 e1 e2 e3 (e4.trans h4)
  own b x l h1 h2 h3 h4 := by
    obtain ⟨b1, x1, l1, e1, e2, e3, e4⟩ := h'.own b x l h1 h2 h3 (Nat.lt_of_lt_of_le h4 h.size)
    obtain ⟨b0, x0, l0, f1, f2, f3, f4⟩ := h.own b1 x1 l1 e1 e2 e3 (e4 ▸ h4)
    exact ⟨b0, x0, l0, f1, f2, f3, f4.trans e4⟩
  new b l h1 h2 h3 := by
    cases hb : φ' b with
    | none =>
      obtain ⟨b1, x1, l1, e1, e2, e3, e4⟩ := h'.new b l hb h2 (Nat.lt_of_lt_of_le h3 h.size)
      obtain ⟨b0, x0, l0, f1, f2, f3, f4⟩ := h.own b1 x1 l1 e1 e2 e3 (e4 ▸ h3)
      exact ⟨b0, x0, l0, f1, f2, f3, f4.trans e4⟩
    | some l1 =>
      have := h'.le b l1 hb
      rw [h2] at this
      cases this
      exact h.new b l h1 hb h3
  os := ⟨h'.os.1.trans h.os.1, h'.os.2.trans h.os.2⟩
theorem Sim.congr {φ : Emb} {g : Mem} {nx : Nat} {w w' : World} (h : Sim φ g nx w) (e : w'.heap = w.heap) : Sim φ g nx w' :=
  ⟨fun b x l h1 h2 => by rw [e]; exact h.blk b x l h1 h2, h.sep, h.fresh⟩
theorem Ext.congr {φ : Emb} {g : Mem} {nx : Nat} {w w1 w' : World} {φ' : Emb} {g' : Mem} {nx' : Nat} (e : w1.heap = w.heap) (eo : w1.os = w.os ∧ w1.output = w.output) (h : Ext φ g nx w φ' g' nx' w') : Ext φ g nx w1 φ' g' nx' w' :=
  ⟨h.le, h.only, h.nx, by rw [e]; exact h.size, fun r o hr => h.frame r o (by rw [← e]; exact hr), fun b x l h1 h2 h3 h4 => h.own b x l h1 h2 h3 (by rw [← e]; exact h4), fun b l h1 h2 h3 => h.new b l h1 h2 (by rw [← e]; exact h3), h.os.1.trans eo.1.symm, h.os.2.trans eo.2.symm⟩
theorem Ext.of_heap {φ : Emb} {g : Mem} {nx : Nat} {w w' : World} (e : w'.heap = w.heap) (eo : w'.os = w.os ∧ w'.output = w.output) : Ext φ g nx w φ g nx w' :=
  ⟨Le.refl φ, fun _ h _ => h, Nat.le_refl _, by rw [e]; exact Nat.le_refl _, fun r o hr _ => by rw [e]; exact hr, fun b x l h1 h2 h3 _ => ⟨b, x, l, h1, h2, h3, rfl⟩, fun b l h1 h2 _ => (by rw [h1] at h2; cases h2), eo⟩
theorem Sim.less {φ : Emb} {g g' : Mem} {nx : Nat} {w : World} (h : Sim φ g nx w)
    (hg : ∀ b x', g' b = some x' → ∃ x, g b = some x ∧ x'.body = x.body ∧ x'.anc = x.anc ∧ (x'.own = true → x.own = true)) : Sim φ g' nx w := by
  refine ⟨fun b x l h1 h2 => ?_, fun b x l b' x' l' h1 h2 h3 h4 h5 h6 h7 => ?_, h.fresh⟩
  · obtain ⟨y, hy, hb, _, ho⟩ := hg b x h1
    obtain ⟨o, hw, hr⟩ := h.blk b y l hy h2
    refine ⟨o, hw, ?_⟩
    rw [hb]
    cases hx : x.own with
    | false => exact hr.unown
    | true => rw [ho hx] at hr; exact hr
  · obtain ⟨y, hy, hb, ha, ho⟩ := hg b x h1
    obtain ⟨y', hy', hb', _, ho'⟩ := hg b' x' h3
    have hs := h.sep b y l b' y' l' hy h2 hy' h4 h5 h6 (ho h7)
    rw [ha, hb, hb']
    refine ⟨hs.1, hs.2.1, ?_⟩
    cases hx : x'.own with
    | false => rfl
    | true => have := ho' hx; rw [hs.2.2] at this; cases this
def Emb.set (φ : Emb) (b : Key) (l : Loc) : Emb := fun k => if b = k then some l else φ k
theorem Emb.set_same (φ : Emb) (b : Key) (l : Loc) : φ.set b l b = some l := by simp [Emb.set]
theorem Emb.set_ne (φ : Emb) {b k : Key} (l : Loc) (h : b ≠ k) : φ.set b l k = φ k := by simp [Emb.set, h]
theorem Emb.le_set {φ : Emb} {b : Key} (l : Loc) (h : φ b = none) : Le φ (φ.set b l) := by
  intro k m e
  by_cases hk : b = k
  · subst hk; rw [h] at e; cases e
  · rw [Emb.set_ne φ l hk]; exact e
theorem Sim.lt {φ : Emb} {g : Mem} {nx : Nat} {w : World} (h : Sim φ g nx w) {b : Key} {x : Blk} {l : Loc} (h1 : g b = some x) (h2 : φ b = some l) : l.blk < w.heap.size := by
  obtain ⟨o, ho, _⟩ := h.blk b x l h1 h2
  exact (Array.getElem?_eq_some_iff.1 ho).1
theorem Sim.push {φ : Emb} {g : Mem} {nx : Nat} {w w' : World} (h : Sim φ g nx w) {b : Key} (hb : φ b = none) (nx' : Nat) (hnx : nx ≤ nx') (hlt : b.toNat < nx') (x : Blk) (l : Loc) (hl : l.blk = w.heap.size) {o : Obj}
    (hw : w'.heap = w.heap.push o) (hr : BRel (φ.set b l) l x.own x.body o) : Sim (φ.set b l) (fun k => if b = k then some x else g k) nx' w' := by
  have hold : ∀ r, r < w.heap.size → w'.heap[r]? = w.heap[r]? := fun r hr => by rw [hw, Array.getElem?_push]; simp [Nat.ne_of_lt hr]
  have hnew : w'.heap[w.heap.size]? = some o := by rw [hw]; simp
  refine ⟨fun c y m h1 h2 => ?_, fun c y m c' y' m' h1 h2 h3 h4 h5 h6 h7 => ?_, fun c hc => ?_⟩
  · by_cases hk : b = c
    · subst hk
      simp only [if_true, Option.some.injEq] at h1
      rw [Emb.set_same] at h2
      cases h1; cases h2
      exact ⟨o, hl ▸ hnew, hr⟩
    · simp only [hk, if_false] at h1
      rw [Emb.set_ne φ l hk] at h2
      obtain ⟨p, hp, hq⟩ := h.blk c y m h1 h2
      exact ⟨p, by rw [hold _ (h.lt h1 h2)]; exact hp, hq.mono (Emb.le_set l hb)⟩
  · by_cases hk : b = c
    · subst hk
      rw [Emb.set_same] at h2; cases h2
      simp only [h6, if_false] at h3
      rw [Emb.set_ne φ l h6] at h4
      have := h.lt h3 h4
      omega
    · simp only [hk, if_false] at h1
      rw [Emb.set_ne φ l hk] at h2
      by_cases hk' : b = c'
      · subst hk'
        rw [Emb.set_same] at h4; cases h4
        have := h.lt h1 h2
        omega
      · simp only [hk', if_false] at h3
        rw [Emb.set_ne φ l hk'] at h4
        exact h.sep c y m c' y' m' h1 h2 h3 h4 h5 h6 h7
  · rw [Emb.set_ne φ l (by rintro rfl; omega)]
    exact h.fresh c (by omega)
theorem Ext.push {φ : Emb} {g : Mem} {w w' : World} {b : Key} (hb : φ b = none) (x : Blk) (l : Loc) (hl : l.blk = w.heap.size) {o : Obj}
    (hw : w'.heap = w.heap.push o) (ho : w'.os = w.os ∧ w'.output = w.output) : Ext φ g b.toNat w (φ.set b l) (fun k => if b = k then some x else g k) (b.toNat + 1) w' where
  le := Emb.le_set l hb
  only c hc hr := by rw [Emb.set_ne φ l (by rintro rfl; omega)]; exact hc
  nx := by omega
  size := by rw [hw]; simp
  frame r o' hr _ := by
    have hlt : r < w.heap.size := (Array.getElem?_eq_some_iff.1 hr).1
    rw [hw, Array.getElem?_push]; simp [Nat.ne_of_lt hlt, hr]
  own c y m h1 h2 h3 h4 := by
    by_cases hk : b = c
    · subst hk; rw [Emb.set_same] at h3; cases h3; omega
    · simp only [hk, if_false] at h1
      rw [Emb.set_ne φ l hk] at h3
      exact ⟨c, y, m, h1, h2, h3, rfl⟩
  new c m h1 h2 h3 := by
    by_cases hk : b = c
    · subst hk; rw [Emb.set_same] at h2; cases h2; omega
    · rw [Emb.set_ne φ l hk, h1] at h2; cases h2
  os := ho
theorem get_upd (h : Heap) (b : Key) (x : Option Blk) : (h.upd b x).get = fun k => if b = k then x else h.get k := by
  funext k; exact Tr.get_upd x h.mem b k
theorem get_newB (h : Heap) (x : Blk) : (h.newB x).get = fun k => if h.next = k then some x else h.get k := by
  funext k; exact Tr.get_upd (some x) h.mem h.next k
theorem ofList_get (l : List SV) (i : Nat) (hi : i < l.length) : (Tr.z.putFrom 0 l).get (kn i) = some l[i] := by
  rw [Tr.get_putFrom]; simp [hi]
theorem BRel.ofList {φ : Emb} {l : List SV} {vs : List Value} (h : All₂ (SRel φ) l vs) (rest : List Value) (r : Nat) (e : TypeId) (fr : Nat × Nat) (own : Bool) (hf : own = true → fr = (0, 0)) :
    BRel φ ⟨r, 0, (vs ++ rest).length⟩ own (Body.ofList l) (.cells (vs ++ rest).toArray e fr) := by
  have hl := forall₂_len h
  refine ⟨_, e, fr, rfl, by simp, by simp [hl], hf, fun i hi => ?_⟩
  obtain ⟨v, hv, hr⟩ := forall₂_get h i (a := l[i]) (by simp [hi])
  refine ⟨l[i], v, ofList_get l i hi, ?_, hr⟩
  have : i < vs.length := by omega
  simp [List.getElem?_append_left this, hv]
end Go.Vm
end
section
namespace Go.Vm
open Key (kn)
theorem readN_spec (c : Tr SV) : ∀ (n o : Nat) (ls : List SV), readN c o n = some ls → ls.length = n ∧ ∀ j, j < n → c.get (kn (o + j)) = ls[j]?
  | 0, o, ls, h => by simp [readN] at h; subst h; simp
  | n + 1, o, ls, h => by
    simp only [readN] at h
    cases h1 : c.get (kn o) with
    | none => simp [h1] at h
    | some v =>
      rw [h1] at h
      cases h2 : readN c (o + 1) n with
      | none => simp [h2] at h
      | some l =>
        simp [h2] at h
        subst h
        obtain ⟨hl, hg⟩ := readN_spec c n (o + 1) l h2
        refine ⟨by simp [hl], fun j hj => ?_⟩
        cases j with
        | zero => simpa using h1
        | succ j => simpa [show o + (j + 1) = o + 1 + j from by omega] using hg j (by omega)
theorem addr_add (r o j : Nat) : (⟨r, o, none⟩ : Addr).add j = ⟨r, o + j, none⟩ := by unfold Addr.add; split <;> simp_all
theorem cells_of {h : Heap} {b : Key} {c : Tr SV} {m : Nat} (e : h.cells b = some (c, m)) : ∃ own anc, h.get b = some ⟨.cells c m, own, anc⟩ := by
  unfold Heap.cells at e
  split at e
  · next c' n' own anc hg => cases e; exact ⟨own, anc, hg⟩
  · cases e
theorem read_zero (h : Heap) (b : Key) (o : Nat) : h.read b o 0 = some [] := by simp [Heap.read]
theorem Sim.read {φ : Emb} {h : Heap} {nx : Nat} {w : World} (s : Sim φ h.get nx w) {b : Key} {l : Loc} (hφ : φ b = some l) {o n : Nat} {ls : List SV} (hr : h.read b o n = some ls) :
    ls.length = n ∧ ∃ vs, All₂ (SRel φ) ls vs ∧ ∀ j v, vs[j]? = some v → w.cell? ((⟨l.blk, o + l.off, none⟩ : Addr).add j) = some v := by
  unfold Heap.read at hr
  split at hr
  · next h0 => cases hr; subst h0; exact ⟨rfl, [], .nil, by simp⟩
  · split at hr
    · next c m hc =>
      split at hr
      · next hle =>
        obtain ⟨own, anc, hg⟩ := cells_of hc
        obtain ⟨hl, hread⟩ := readN_spec c n o ls hr
        obtain ⟨ob, hw, arr, e, fr, rfl, hs, hm, _, hcell⟩ := s.blk b _ l hg hφ
        refine ⟨hl, (List.range n).map (fun j => arr.getD (l.off + (o + j)) undef), ?_, ?_⟩
        · refine forall₂_of_get (by simp [hl]) fun i a ha => ?_
          have hi : i < n := by rw [← hl]; exact (List.getElem?_eq_some_iff.1 ha).1
          obtain ⟨sv, v, h1, h2, h3⟩ := hcell (o + i) (by omega)
          rw [hread i hi, ha] at h1
          cases h1
          exact ⟨v, by simp [hi, h2], h3⟩
        · intro j v hj
          have hj' : j < n := by
            have := (List.getElem?_eq_some_iff.1 hj).1
            simpa using this
          simp [hj'] at hj
          obtain ⟨sv, v', _, h2, _⟩ := hcell (o + j) (by omega)
          rw [addr_add]
          simp only [World.cell?, hw]
          rw [show o + l.off + j = l.off + (o + j) from by omega]
          rw [h2] at hj ⊢
          simp at hj
          simp [hj]
      · cases hr
    · cases hr
theorem killAll_get : ∀ (anc : List Key) (h : Heap) (k : Key), (h.killAll anc).get k = if k ∈ anc then none else h.get k
  | [], h, k => by simp [Heap.killAll]
  | b :: l, h, k => by
    rw [Heap.killAll, killAll_get l]
    by_cases h1 : k ∈ l
    · simp [h1]
    · simp only [h1, if_false, List.mem_cons, or_false]
      rw [get_upd]
      by_cases h2 : b = k
      · simp [h2]
      · simp [h2, Ne.symm h2]
theorem killAll_next : ∀ (anc : List Key) (h : Heap), (h.killAll anc).next = h.next
  | [], _ => rfl
  | _ :: l, h => by rw [Heap.killAll, killAll_next l]; rfl
def over (arr : Array Value) (p : Nat) (vs : List Value) : Array Value := (arr.toList.take p ++ vs ++ arr.toList.drop (p + vs.length)).toArray
theorem over_size (arr : Array Value) (p : Nat) (vs : List Value) (h : p + vs.length ≤ arr.size) : (over arr p vs).size = arr.size := by
  simp [over]; omega
theorem over_in (arr : Array Value) (p : Nat) (vs : List Value) (h : p + vs.length ≤ arr.size) (i : Nat) (hi : i < vs.length) : (over arr p vs)[p + i]? = vs[i]? := by
  have hp : (arr.toList.take p).length = p := by simp; omega
  simp only [over, List.getElem?_toArray, List.append_assoc]
  rw [List.getElem?_append_right (by omega), hp, show p + i - p = i from by omega, List.getElem?_append_left hi]
theorem over_out (arr : Array Value) (p : Nat) (vs : List Value) (h : p + vs.length ≤ arr.size) (i : Nat) (hi : i < p ∨ p + vs.length ≤ i) : (over arr p vs)[i]? = arr[i]? := by
  have hp : (arr.toList.take p).length = p := by simp; omega
  simp only [over, List.getElem?_toArray, List.append_assoc]
  rcases hi with hi | hi
  · rw [List.getElem?_append_left (by omega), List.getElem?_take]; simp [hi]
  · rw [List.getElem?_append_right (by omega), hp, List.getElem?_append_right (by omega), List.getElem?_drop]
    rw [show p + vs.length + (i - p - vs.length) = i from by omega]; simp
theorem setRow_os (w : World) (b : Nat) (c : Array Value) : (w.setRow b c).os = w.os ∧ (w.setRow b c).output = w.output := by
  unfold World.setRow; first | exact ⟨rfl, rfl⟩ | (split <;> exact ⟨rfl, rfl⟩)
theorem Sim.wrote {φ : Emb} {g : Mem} {nx : Nat} {w : World} (s : Sim φ g nx w) {b : Key} {l : Loc} (hφ : φ b = some l) {c : Tr SV} {m : Nat} {anc : List Key}
    (hg : g b = some ⟨.cells c m, true, anc⟩) {o : Nat} {ls : List SV} {vs : List Value} (hv : All₂ (SRel φ) ls vs) (hle : o + ls.length ≤ m)
    {g' : Mem} (hb : g' b = some ⟨.cells (c.putFrom o ls) m, true, []⟩) (hk : ∀ k x, k ≠ b → g' k = some x → g k = some x ∧ k ∉ anc) :
    ∃ arr e, w.heap[l.blk]? = some (.cells arr e (0, 0)) ∧ o + l.off + vs.length ≤ arr.size ∧
      Sim φ g' nx (w.setRow l.blk (over arr (o + l.off) vs)) ∧ ∀ lo, Ext φ g lo w φ g' lo (w.setRow l.blk (over arr (o + l.off) vs)) := by
  have hlen := forall₂_len hv
  obtain ⟨ob, hw, arr, e, fr, rfl, hs, hm, hf, hcell⟩ := s.blk b _ l hg hφ
  have hfr : fr = (0, 0) := hf rfl
  subst hfr
  have hfit : o + l.off + vs.length ≤ arr.size := by
    have : l.off + m ≤ arr.size := hm
    omega
  have hother : ∀ k x lk, k ≠ b → g' k = some x → φ k = some lk → lk.blk ≠ l.blk := fun k x lk hne h1 h2 h3 => by
    obtain ⟨h4, h5⟩ := hk k x hne h1
    exact h5 (s.sep b _ l k x lk hg hφ h4 h2 h3.symm (Ne.symm hne) rfl).1
  refine ⟨arr, e, hw, hfit, ⟨fun k x lk h1 h2 => ?_, fun k x lk k' x' lk' h1 h2 h3 h4 h5 h6 h7 => ?_, s.fresh⟩, fun lo => ⟨Le.refl φ, fun _ h _ => h, Nat.le_refl _, by simp, fun r ob hr hn => ?_, fun k x lk h1 h2 h3 _ => ?_, fun k lk h1 h2 _ => (by rw [h1] at h2; cases h2), setRow_os _ _ _⟩⟩
  · by_cases hkb : k = b
    · subst hkb
      rw [hφ] at h2; cases h2
      rw [hb] at h1; cases h1
      refine ⟨_, setRow_heap w l.blk arr _ e (0, 0) hw, over arr (o + l.off) vs, e, (0, 0), rfl, by rw [over_size _ _ _ hfit]; exact hs, by rw [over_size _ _ _ hfit]; exact hm, fun _ => rfl, fun i hi => ?_⟩
      by_cases hin : o ≤ i ∧ i < o + ls.length
      · obtain ⟨j, rfl⟩ : ∃ j, i = o + j := ⟨i - o, by omega⟩
        have hj : j < ls.length := by omega
        obtain ⟨v, hv1, hv2⟩ := forall₂_get hv j (a := ls[j]) (by simp [hj])
        refine ⟨ls[j], v, ?_, ?_, hv2⟩
        · rw [Tr.get_putFrom, if_pos ⟨by omega, by omega⟩, show o + j - o = j from by omega]; simp [hj]
        · rw [show l.off + (o + j) = (o + l.off) + j from by omega, over_in _ _ _ hfit j (by omega)]; exact hv1
      · obtain ⟨sv, v, h3, h4, h5⟩ := hcell i hi
        refine ⟨sv, v, ?_, ?_, h5⟩
        · rw [Tr.get_putFrom, if_neg hin]; exact h3
        · rw [over_out _ _ _ hfit _ (by omega)]; exact h4
    · have hne := hother k x lk hkb h1 h2
      obtain ⟨h3, _⟩ := hk k x hkb h1
      obtain ⟨o', ho', hr'⟩ := s.blk k x lk h3 h2
      exact ⟨o', by rw [setRow_other w l.blk lk.blk _ hne]; exact ho', hr'⟩
  · by_cases hkb : k = b
    · subst hkb
      rw [hφ] at h2; cases h2
      exact absurd h5.symm (hother k' x' lk' (Ne.symm h6) h3 h4)
    · by_cases hkb' : k' = b
      · subst hkb'
        rw [hφ] at h4; cases h4
        exact absurd h5 (hother k x lk hkb h1 h2)
      · exact s.sep k x lk k' x' lk' (hk k x hkb h1).1 h2 (hk k' x' hkb' h3).1 h4 h5 h6 h7
  · have hne : r ≠ l.blk := fun e' => hn b _ l hg rfl hφ e'.symm
    rw [setRow_other w l.blk r _ hne]; exact hr
  · by_cases hkb : k = b
    · subst hkb; exact ⟨k, _, l, hg, rfl, hφ, by rw [hφ] at h3; cases h3; rfl⟩
    · exact ⟨k, x, lk, (hk k x hkb h1).1, h2, h3, rfl⟩
theorem write_spec {h h' : Heap} {b : Key} {o : Nat} {ls : List SV} (e : h.write b o ls = some h') :
    ∃ c m anc, h.get b = some ⟨.cells c m, true, anc⟩ ∧ o + ls.length ≤ m ∧ h'.next = h.next ∧
      h'.get b = some ⟨.cells (c.putFrom o ls) m, true, []⟩ ∧ ∀ k x, k ≠ b → h'.get k = some x → h.get k = some x ∧ k ∉ anc := by
  unfold Heap.write at e
  split at e
  · next c m anc hg =>
    split at e
    · next hle =>
      cases e
      refine ⟨c, m, anc, hg, hle, by simp [Heap.upd, killAll_next], by rw [get_upd]; simp, fun k x hne hx => ?_⟩
      rw [get_upd] at hx
      simp only [Ne.symm hne, if_false] at hx
      rw [killAll_get] at hx
      split at hx
      · cases hx
      · next hn => exact ⟨hx, hn⟩
    · cases e
  · cases e
theorem Sim.write {φ : Emb} {h h' : Heap} {nx : Nat} {w : World} (s : Sim φ h.get nx w) {b : Key} {l : Loc} (hφ : φ b = some l) {o : Nat} {ls : List SV} {vs : List Value}
    (hv : All₂ (SRel φ) ls vs) (e : h.write b o ls = some h') :
    ∃ arr t, w.heap[l.blk]? = some (.cells arr t (0, 0)) ∧ o + l.off + vs.length ≤ arr.size ∧ h'.next = h.next ∧
      Sim φ h'.get nx (w.setRow l.blk (over arr (o + l.off) vs)) ∧ ∀ lo, Ext φ h.get lo w φ h'.get lo (w.setRow l.blk (over arr (o + l.off) vs)) := by
  obtain ⟨c, m, anc, hg, hle, hn, hb, hk⟩ := write_spec e
  obtain ⟨arr, t, h1, h2, h3, h4⟩ := s.wrote hφ hg hv hle hb hk
  exact ⟨arr, t, h1, h2, hn, h3, h4⟩
theorem copied_spec {c : Tr SV} {m o k : Nat} {new : List SV} {body : Body} (e : Heap.copied c m o k new = some body) :
    o + k ≤ m ∧ ∃ c', body = .cells c' (k + new.length) ∧ (∀ i, i < k → c'.get (kn i) = c.get (kn (o + i))) ∧ ∀ i, i < new.length → c'.get (kn (k + i)) = new[i]? := by
  unfold Heap.copied at e
  split at e
  · next hle =>
    refine ⟨hle, ?_⟩
    split at e
    · next h0 =>
      cases e; subst h0
      refine ⟨_, rfl, fun i hi => ?_, fun i hi => ?_⟩
      · rw [Tr.get_putFrom, if_neg (by omega)]; simp
      · rw [Tr.get_putFrom, if_pos ⟨by omega, by omega⟩, show k + i - k = i from by omega]
    · split at e
      · next old hr =>
        cases e
        obtain ⟨hl, hg⟩ := readN_spec c k o old hr
        refine ⟨Tr.z.putFrom 0 (old ++ new), by simp [Body.ofList, hl], fun i hi => ?_, fun i hi => ?_⟩
        · rw [Tr.get_putFrom, if_pos ⟨by omega, by simp; omega⟩, hg i hi]
          simp only [Nat.sub_zero]
          rw [List.getElem?_append_left (by omega)]
        · rw [Tr.get_putFrom, if_pos ⟨by omega, by simp; omega⟩]
          simp only [Nat.sub_zero]
          rw [List.getElem?_append_right (by omega), hl, show k + i - k = i from by omega]
      · cases e
  · cases e
theorem grow_spec {h h' : Heap} {b b' : Key} {o k : Nat} {new : List SV} (e : h.grow b o k new = some (b', h')) :
    ∃ c m anc body anc' g1, h.get b = some ⟨.cells c m, true, anc⟩ ∧ Heap.copied c m o k new = some body ∧ b' = h.next ∧ h'.next = h.next.succ ∧
      (h'.get = fun j => if h.next = j then some ⟨body, true, anc'⟩ else g1 j) ∧
      ((o + k = m ∧ anc' = b :: anc ∧ g1 = fun j => if b = j then some ⟨.cells c m, false, anc⟩ else h.get j) ∨
       (o + k ≠ m ∧ anc' = [] ∧ g1 = fun j => if j = b ∨ j ∈ anc then none else h.get j)) := by
  unfold Heap.grow at e
  split at e
  · next c m anc hg =>
    split at e
    · next body hc =>
      split at e
      · next hm =>
        cases e
        refine ⟨c, m, anc, body, b :: anc, _, hg, hc, rfl, rfl, ?_, .inl ⟨hm, rfl, rfl⟩⟩
        rw [get_newB, get_upd]; rfl
      · next hm =>
        cases e
        refine ⟨c, m, anc, body, [], _, hg, hc, rfl, by simp [Heap.newB, Heap.upd, killAll_next], ?_, .inr ⟨hm, rfl, rfl⟩⟩
        rw [get_newB, get_upd]
        funext j
        have hn : ((h.killAll anc).upd b none).next = h.next := by simp [Heap.upd, killAll_next]
        rw [hn]
        by_cases h1 : h.next = j
        · simp [h1]
        · simp only [h1, if_false]
          by_cases h2 : b = j
          · simp [h2]
          · simp only [h2, if_false, Ne.symm h2, false_or]
            rw [killAll_get]
    · cases e
  · cases e
theorem Sim.grow_old {φ : Emb} {h : Heap} {nx : Nat} {w : World} (s : Sim φ h.get nx w) {b : Key} {c : Tr SV} {m : Nat} {anc : List Key} {P Q : Prop} {anc' : List Key} {g1 : Mem} (hg : h.get b = some ⟨.cells c m, true, anc⟩)
    (hg1 : (P ∧ anc' = b :: anc ∧ g1 = fun j => if b = j then some ⟨.cells c m, false, anc⟩ else h.get j) ∨ (Q ∧ anc' = [] ∧ g1 = fun j => if j = b ∨ j ∈ anc then none else h.get j)) : Sim φ g1 nx w := by
  refine s.less fun k x hx => ?_
  rcases hg1 with ⟨_, _, rfl⟩ | ⟨_, _, rfl⟩
  · by_cases hk : b = k
    · simp only [hk, if_true] at hx
      cases hx
      exact ⟨⟨.cells c m, true, anc⟩, by rw [← hk]; exact hg, rfl, rfl, by simp⟩
    · simp only [hk, if_false] at hx
      exact ⟨x, hx, rfl, rfl, id⟩
  · simp only at hx
    split at hx
    · cases hx
    · exact ⟨x, hx, rfl, rfl, id⟩
theorem Sim.grow_new {φ : Emb} {h h' : Heap} {nx nx' : Nat} {w : World} (s : Sim φ h.get nx w) (hb : φ h.next = none) (hnx : nx ≤ nx') (hlt : h.next.toNat < nx') {b b' : Key} {o k : Nat} {new : List SV}
    (e : h.grow b o k new = some (b', h')) {l : Loc} (hφ : k = 0 ∨ φ b = some l) {vs : List Value} (hv : All₂ (SRel φ) new vs) :
    b' = h.next ∧ h'.next = h.next.succ ∧ ∃ olds : List Value, olds.length = k ∧ (∀ j v, olds[j]? = some v → w.cell? ((⟨l.blk, o + l.off, none⟩ : Addr).add j) = some v) ∧
      ∀ (w' : World) (rest : List Value) (t : TypeId), w'.heap = w.heap.push (.cells (olds ++ vs ++ rest).toArray t (0, 0)) → (w'.os = w.os ∧ w'.output = w.output) →
        Sim (φ.set h.next ⟨w.heap.size, 0, (olds ++ vs ++ rest).length⟩) h'.get nx' w' ∧
        Ext φ h.get h.next.toNat w (φ.set h.next ⟨w.heap.size, 0, (olds ++ vs ++ rest).length⟩) h'.get (h.next.toNat + 1) w' := by
  obtain ⟨c, m, anc, body, anc', g1, hg, hc, rfl, hn, hget, hg1⟩ := grow_spec e
  obtain ⟨hle, c', rfl, hc1, hc2⟩ := copied_spec hc
  have hlen := forall₂_len hv
  have s1 : Sim φ g1 nx w := s.grow_old hg hg1
  have hold : ∃ olds : List Value, olds.length = k ∧ (∀ j v, olds[j]? = some v → w.cell? ((⟨l.blk, o + l.off, none⟩ : Addr).add j) = some v) ∧
      ∀ i, i < k → ∃ sv v, c'.get (kn i) = some sv ∧ olds[i]? = some v ∧ SRel φ sv v := by
    rcases hφ with rfl | hφ
    · exact ⟨[], rfl, by simp, by omega⟩
    · obtain ⟨ob, hw, arr, t, fr, rfl, hs, hm, _, hcell⟩ := s.blk b _ l hg hφ
      refine ⟨(List.range k).map (fun j => arr.getD (l.off + (o + j)) undef), by simp, fun j v hj => ?_, fun i hi => ?_⟩
      · have hj' : j < k := by
          have := (List.getElem?_eq_some_iff.1 hj).1
          simpa using this
        simp [hj'] at hj
        obtain ⟨sv, v', _, h2, _⟩ := hcell (o + j) (by omega)
        rw [addr_add]
        simp only [World.cell?, hw]
        rw [show o + l.off + j = l.off + (o + j) from by omega]
        rw [h2] at hj ⊢
        simp at hj
        simp [hj]
      · obtain ⟨sv, v, h1, h2, h3⟩ := hcell (o + i) (by omega)
        exact ⟨sv, v, by rw [hc1 i hi]; exact h1, by simp [hi, h2], h3⟩
  obtain ⟨olds, hol, hoc, hor⟩ := hold
  refine ⟨rfl, hn, olds, hol, hoc, fun w' rest t hw' ho' => ?_⟩
  rw [hget]
  refine ⟨s1.push hb nx' hnx hlt ⟨.cells c' (k + new.length), true, anc'⟩ _ rfl hw' ⟨_, t, (0, 0), rfl, by simp, by simp; omega, fun _ => rfl, fun i hi => ?_⟩, ?_⟩
  · have hle' := Emb.le_set (φ := φ) ⟨w.heap.size, 0, (olds ++ vs ++ rest).length⟩ hb
    by_cases hik : i < k
    · obtain ⟨sv, v, h1, h2, h3⟩ := hor i hik
      refine ⟨sv, v, h1, ?_, h3.mono hle'⟩
      simp only [List.getElem?_toArray, Nat.zero_add]
      rw [List.append_assoc, List.getElem?_append_left (by omega)]; exact h2
    · obtain ⟨j, rfl⟩ : ∃ j, i = k + j := ⟨i - k, by omega⟩
      have hj : j < new.length := by omega
      obtain ⟨v, h1, h2⟩ := forall₂_get hv j (a := new[j]) (by simp [hj])
      refine ⟨new[j], v, by rw [hc2 j hj]; simp [hj], ?_, h2.mono hle'⟩
      simp only [List.getElem?_toArray, Nat.zero_add]
      rw [List.append_assoc, List.getElem?_append_right (by omega), hol, show k + j - k = j from by omega, List.getElem?_append_left (by omega)]; exact h1
  · have x1 := Ext.push (φ := φ) (g := g1) (w := w) (w' := w') (b := h.next) hb ⟨.cells c' (k + new.length), true, anc'⟩ ⟨w.heap.size, 0, (olds ++ vs ++ rest).length⟩ rfl hw' ho'
    refine ⟨x1.le, x1.only, x1.nx, x1.size, fun r ob hr hnr => ?_, fun k1 x1' l1 h1 h2 h3 h4 => ?_, fun k1 l1 h1 h2 h3 => ?_, ho'⟩
    · have : r < w.heap.size := (Array.getElem?_eq_some_iff.1 hr).1
      rw [hw', Array.getElem?_push]; simp [Nat.ne_of_lt this, hr]
    · obtain ⟨b0, x0, l0, f1, f2, f3, f4⟩ := x1.own k1 x1' l1 h1 h2 h3 h4
      rcases hg1 with ⟨_, _, rfl⟩ | ⟨_, _, rfl⟩
      · by_cases hk : b = b0
        · simp only [hk, if_true] at f1; cases f1; cases f2
        · simp only [hk, if_false] at f1; exact ⟨b0, x0, l0, f1, f2, f3, f4⟩
      · simp only at f1
        split at f1
        · cases f1
        · exact ⟨b0, x0, l0, f1, f2, f3, f4⟩
    · obtain ⟨b0, x0, l0, f1, f2, f3, f4⟩ := x1.new k1 l1 h1 h2 h3
      rcases hg1 with ⟨_, _, rfl⟩ | ⟨_, _, rfl⟩
      · by_cases hk : b = b0
        · simp only [hk, if_true] at f1; cases f1; cases f2
        · simp only [hk, if_false] at f1; exact ⟨b0, x0, l0, f1, f2, f3, f4⟩
      · simp only at f1
        split at f1
        · cases f1
        · exact ⟨b0, x0, l0, f1, f2, f3, f4⟩
theorem Sim.grow_in {φ : Emb} {h h' : Heap} {nx nx' : Nat} {w : World} (s : Sim φ h.get nx w) (hb : φ h.next = none) (hnx : nx ≤ nx') (hlt : h.next.toNat < nx') {b b' : Key} {o k : Nat} {new : List SV}
    (e : h.grow b o k new = some (b', h')) {l : Loc} (hφ : φ b = some l) {vs : List Value} (hv : All₂ (SRel φ) new vs) (hfit : o + l.off + k + vs.length ≤ l.tot) :
    b' = h.next ∧ h'.next = h.next.succ ∧ ∃ arr t, w.heap[l.blk]? = some (.cells arr t (0, 0)) ∧ o + l.off + k + vs.length ≤ arr.size ∧
        Sim (φ.set h.next ⟨l.blk, o + l.off, l.tot⟩) h'.get nx' (w.setRow l.blk (over arr (o + l.off + k) vs)) ∧
        Ext φ h.get h.next.toNat w (φ.set h.next ⟨l.blk, o + l.off, l.tot⟩) h'.get (h.next.toNat + 1) (w.setRow l.blk (over arr (o + l.off + k) vs)) := by
  obtain ⟨c, m, anc, body, anc', g1, hg, hc, rfl, hn, hget, hg1⟩ := grow_spec e
  obtain ⟨hle, c', rfl, hc1, hc2⟩ := copied_spec hc
  have hlen := forall₂_len hv
  have s1 : Sim φ g1 nx w := s.grow_old hg hg1
  obtain ⟨ob, hw, arr, t, fr, rfl, hs, hm, hf, hcell⟩ := s.blk b _ l hg hφ
  have hfr : fr = (0, 0) := hf rfl
  subst hfr
  have hfit' : o + l.off + k + vs.length ≤ arr.size := by rw [hs]; exact hfit
  have hne : h.next ≠ b := fun e' => by rw [e'] at hb; rw [hb] at hφ; cases hφ
  have hle' := Emb.le_set (φ := φ) ⟨l.blk, o + l.off, l.tot⟩ hb
  have share : ∀ j x lj, g1 j = some x → φ j = some lj → lj.blk = l.blk → j ∈ anc' ∧ lj.off + x.body.size ≤ o + l.off + k ∧ x.own = false ∧ (o + k = m) := fun j x lj h1 h2 h3 => by
    rcases hg1 with ⟨hm', rfl, rfl⟩ | ⟨hm', rfl, rfl⟩
    · by_cases hj : b = j
      · subst hj
        simp only [if_true] at h1
        cases h1
        rw [hφ] at h2; cases h2
        exact ⟨by simp, by simp [Body.size]; omega, rfl, hm'⟩
      · simp only [hj, if_false] at h1
        have hsep := s.sep b _ l j x lj hg hφ h1 h2 h3.symm hj rfl
        refine ⟨by simp [hsep.1], ?_, hsep.2.2, hm'⟩
        have h9 := hsep.2.1
        change lj.off + x.body.size ≤ l.off + m at h9
        omega
    · simp only at h1
      split at h1
      · cases h1
      · next hj =>
        have hsep := s.sep b _ l j x lj hg hφ h1 h2 h3.symm (fun e' => hj (.inl e'.symm)) rfl
        exact absurd (.inr hsep.1) hj
  refine ⟨rfl, hn, arr, t, hw, hfit', ⟨fun j x lj h1 h2 => ?_, fun j x lj j' x' lj' h1 h2 h3 h4 h5 h6 h7 => ?_, fun j hj => ?_⟩, ⟨hle', fun j hj hr => ?_, by omega, by simp, fun r ob hr hnr => ?_, fun j x lj h1 h2 h3 h4 => ?_, fun j lj h1 h2 h3 => ?_, setRow_os _ _ _⟩⟩
  · rw [hget] at h1
    by_cases hj : h.next = j
    · subst hj
      simp only [if_true] at h1
      cases h1
      rw [Emb.set_same] at h2; cases h2
      refine ⟨_, setRow_heap w l.blk arr _ t (0, 0) hw, over arr (o + l.off + k) vs, t, (0, 0), rfl, by rw [over_size _ _ _ hfit']; exact hs, by rw [over_size _ _ _ hfit']; simp; omega, fun _ => rfl, fun i hi => ?_⟩
      by_cases hik : i < k
      · obtain ⟨sv, v, h1, h2, h3⟩ := hcell (o + i) (by omega)
        refine ⟨sv, v, by rw [hc1 i hik]; exact h1, ?_, h3.mono hle'⟩
        simp only
        rw [over_out _ _ _ hfit' _ (by omega), show o + l.off + i = l.off + (o + i) from by omega]; exact h2
      · obtain ⟨q, rfl⟩ : ∃ q, i = k + q := ⟨i - k, by omega⟩
        have hq : q < new.length := by omega
        obtain ⟨v, h1, h2⟩ := forall₂_get hv q (a := new[q]) (by simp [hq])
        refine ⟨new[q], v, by rw [hc2 q hq]; simp [hq], ?_, h2.mono hle'⟩
        simp only
        rw [show o + l.off + (k + q) = o + l.off + k + q from by omega, over_in _ _ _ hfit' q (by omega)]; exact h1
    · simp only [hj, if_false] at h1
      rw [Emb.set_ne φ _ hj] at h2
      obtain ⟨ob, ho, hr⟩ := s1.blk j x lj h1 h2
      by_cases hbl : lj.blk = l.blk
      · obtain ⟨_, hend, hown, _⟩ := share j x lj h1 h2 hbl
        rw [hbl, hw] at ho
        cases ho
        cases hbody : x.body with
        | cells cx mx =>
          rw [hbody] at hr hend
          obtain ⟨arr2, t2, fr2, he2, hs2, hm2, hf2, hc2'⟩ := hr
          cases he2
          refine ⟨_, hbl ▸ setRow_heap w l.blk arr _ t (0, 0) hw, over arr (o + l.off + k) vs, t, (0, 0), rfl, by rw [over_size _ _ _ hfit']; exact hs2, by rw [over_size _ _ _ hfit']; exact hm2, fun _ => rfl, fun i hi => ?_⟩
          obtain ⟨sv, v, g1', g2', g3'⟩ := hc2' i hi
          refine ⟨sv, v, g1', ?_, g3'.mono hle'⟩
          rw [over_out _ _ _ hfit' _ (by simp only [Body.size] at hend; omega)]; exact g2'
        | map es => rw [hbody] at hr; obtain ⟨_, he, _⟩ := hr; cases he
        | iter a1 a2 a3 => rw [hbody] at hr; obtain ⟨_, _, _, he⟩ := hr; cases he
        | siter a1 a2 => rw [hbody] at hr; obtain ⟨_, he⟩ := hr; cases he
      · exact ⟨ob, by rw [setRow_other w l.blk lj.blk _ hbl]; exact ho, hr.mono hle'⟩
  · rw [hget] at h1 h3
    by_cases hj : h.next = j
    · subst hj
      simp only [if_true] at h1
      cases h1
      rw [Emb.set_same] at h2; cases h2
      simp only [h6, if_false] at h3
      rw [Emb.set_ne φ _ h6] at h4
      obtain ⟨hm1, hm2, hm3, hm4⟩ := share j' x' lj' h3 h4 h5.symm
      refine ⟨hm1, ?_, hm3⟩
      change lj'.off + x'.body.size ≤ o + l.off + (k + new.length)
      omega
    · simp only [hj, if_false] at h1
      rw [Emb.set_ne φ _ hj] at h2
      by_cases hj' : h.next = j'
      · subst hj'
        rw [Emb.set_same] at h4; cases h4
        have := (share j x lj h1 h2 h5).2.2.1
        rw [this] at h7; cases h7
      · simp only [hj', if_false] at h3
        rw [Emb.set_ne φ _ hj'] at h4
        exact s1.sep j x lj j' x' lj' h1 h2 h3 h4 h5 h6 h7
  · rw [Emb.set_ne φ _ (by rintro rfl; omega)]
    exact s.fresh j (by omega)
  · rw [Emb.set_ne φ _ (by rintro rfl; omega)]; exact hj
  · have hne' : r ≠ l.blk := fun e' => hnr b _ l hg rfl hφ e'.symm
    rw [setRow_other w l.blk r _ hne']; exact hr
  · rw [hget] at h1
    by_cases hj : h.next = j
    · subst hj
      rw [Emb.set_same] at h3; cases h3
      exact ⟨b, _, l, hg, rfl, hφ, rfl⟩
    · simp only [hj, if_false] at h1
      rw [Emb.set_ne φ _ hj] at h3
      rcases hg1 with ⟨_, _, rfl⟩ | ⟨_, _, rfl⟩
      · by_cases hk : b = j
        · simp only [hk, if_true] at h1; cases h1; cases h2
        · simp only [hk, if_false] at h1; exact ⟨j, x, lj, h1, h2, h3, rfl⟩
      · simp only at h1
        split at h1
        · cases h1
        · exact ⟨j, x, lj, h1, h2, h3, rfl⟩
  · by_cases hj : h.next = j
    · subst hj
      rw [Emb.set_same] at h2; cases h2
      exact ⟨b, _, l, hg, rfl, hφ, rfl⟩
    · rw [Emb.set_ne φ _ hj, h1] at h2; cases h2
end Go.Vm
end
section
namespace Go.Vm
open Key (kn)
def Done (P : Program) (ρ : Operand → Value) (o : Oper) (w : World) (v : Value) (w' : World) : Prop :=
  (execOp ρ o).run P w = .ok (.value v) w' ∨ ((execOp ρ o).run P w = .ok .skip w' ∧ v = undef)
def OkAt (P : Program) (op : Op) (vop : VOp) (xs : List Operand) : Prop :=
  ∀ (o : Oper), o.op = op → ∀ (φ : Emb) (h : Heap) (nx : Nat) (w : World) (ρ : Operand → Value) (args : List AV) (v : AV) (h' : Heap),
    vop.run args h = some (v, h') → Sim φ h.get nx w → φ h.next = none → All₂ (ARel φ) args (xs.map ρ) →
    ∃ v' w', Done P ρ o w v' w' ∧ ∃ φ', (∀ nx', nx ≤ nx' → h'.next.toNat ≤ nx' → Sim φ' h'.get nx' w') ∧ Ext φ h.get h.next.toNat w φ' h'.get h'.next.toNat w' ∧ ARel φ' v v'
def Ok (P : Program) (op : Op) : Prop := ∀ vop xs, cOp P op = some (.op vop, xs) → OkAt P op vop xs
theorem Sim.up {φ : Emb} {g : Mem} {nx nx' : Nat} {w : World} (s : Sim φ g nx w) (h : nx ≤ nx') : Sim φ g nx' w :=
  ⟨s.blk, s.sep, fun b hb => s.fresh b (by omega)⟩
theorem pure_ok {P : Program} {o : Oper} {φ : Emb} {h : Heap} {nx : Nat} {w : World} {ρ : Operand → Value} {v : AV} {v' : Value} (s : Sim φ h.get nx w)
    (hd : (execOp ρ o).run P w = .ok (.value v') w) (hv : ARel φ v v') :
    ∃ v' w', Done P ρ o w v' w' ∧ ∃ φ', (∀ nx', nx ≤ nx' → h.next.toNat ≤ nx' → Sim φ' h.get nx' w') ∧ Ext φ h.get h.next.toNat w φ' h.get h.next.toNat w' ∧ ARel φ' v v' :=
  ⟨v', w, .inl hd, φ, fun _ h1 _ => s.up h1, Ext.refl _ _ _ _, hv⟩
theorem arg1 {φ : Emb} {a : AV} {x : Operand} {ρ : Operand → Value} (h : All₂ (ARel φ) [a] ([x].map ρ)) : ARel φ a (ρ x) := by
  cases h with
  | cons h t => exact h
theorem arg2 {φ : Emb} {a b : AV} {x y : Operand} {ρ : Operand → Value} (h : All₂ (ARel φ) [a, b] ([x, y].map ρ)) : ARel φ a (ρ x) ∧ ARel φ b (ρ y) := by
  cases h with
  | cons h t => exact ⟨h, arg1 t⟩
theorem arg3 {φ : Emb} {a b c : AV} {x y z : Operand} {ρ : Operand → Value} (h : All₂ (ARel φ) [a, b, c] ([x, y, z].map ρ)) : ARel φ a (ρ x) ∧ ARel φ b (ρ y) ∧ ARel φ c (ρ z) := by
  cases h with
  | cons h t => exact ⟨h, arg2 t⟩
section
variable {P : Program} {w : World}
theorem sizeT_some {t : TypeId} {n : Nat} (h : sizeT P t = some n) : ∃ i, P.info? t = some i ∧ i.size = n := by
  unfold sizeT at h
  cases hi : P.info? t with
  | none => simp [hi] at h
  | some i => simp [hi] at h; exact ⟨i, rfl, h⟩
theorem bytesT_some {t : TypeId} {n : Nat} (h : bytesT P t = some n) : ∃ i, P.info? t = some i ∧ i.bytes = n := by
  unfold bytesT at h
  cases hi : P.info? t with
  | none => simp [hi] at h
  | some i => simp [hi] at h; exact ⟨i, rfl, h⟩
theorem run_sizeOf {t : TypeId} {n : Nat} (h : sizeT P t = some n) : (sizeOf t).run P w = .ok n w := by
  obtain ⟨i, hi, rfl⟩ := sizeT_some h
  simp [sizeOf, typeInfo, hi]
theorem eqGuard_int (op : BinOp) (t : TypeId) (x y : Operand) (k k' : IntKind) (a b : Int) : (eqGuard op t x y (.int k a) (.int k' b)).run P w = .ok () w := by
  cases op <;> simp [eqGuard]
theorem eqGuard_string (op : BinOp) (t : TypeId) (x y : Operand) (a b : ByteArray) : (eqGuard op t x y (.string a) (.string b)).run P w = .ok () w := by
  cases op <;> simp [eqGuard]
end
theorem ok_move (P : Program) (x : Operand) : Ok P (.move x) := by
  intro vop xs hc
  simp only [cOp, Option.some.injEq, Prod.mk.injEq, VAct.op.injEq] at hc
  obtain ⟨rfl, rfl⟩ := hc
  intro o ho φ h nx w ρ args v h' hr s _ ha
  obtain ⟨dst, op, type, pos, after, guard⟩ := o
  simp only at ho; subst ho
  simp only [VOp.run] at hr
  unfold rMov at hr
  split at hr
  · cases hr
    exact pure_ok (v' := ρ x) s (by simp [execOp]) (arg1 ha)
  · cases hr
theorem ok_assign (P : Program) (x : Operand) : Ok P (.assign x) := by
  intro vop xs hc
  simp only [cOp, Option.some.injEq, Prod.mk.injEq, VAct.op.injEq] at hc
  obtain ⟨rfl, rfl⟩ := hc
  intro o ho φ h nx w ρ args v h' hr s _ ha
  obtain ⟨dst, op, type, pos, after, guard⟩ := o
  simp only at ho; subst ho
  simp only [VOp.run] at hr
  unfold rMov at hr
  split at hr
  · cases hr
    exact pure_ok (v' := ρ x) s (by simp [execOp]) (arg1 ha)
  · cases hr
theorem ok_pick (P : Program) (c a b : Operand) : Ok P (.pick c a b) := by
  intro vop xs hc
  simp only [cOp, Option.some.injEq, Prod.mk.injEq, VAct.op.injEq] at hc
  obtain ⟨rfl, rfl⟩ := hc
  intro o ho φ h nx w ρ args v h' hr s _ ha
  obtain ⟨dst, op, type, pos, after, guard⟩ := o
  simp only at ho; subst ho
  simp only [VOp.run] at hr
  unfold rPick at hr
  split at hr
  · next cb x y =>
    cases hr
    obtain ⟨r1, r2, r3⟩ := arg3 ha
    have e1 : ρ c = .bool cb := r1
    refine pure_ok (v' := if cb then ρ a else ρ b) s (by simp [execOp, e1, asBool]) ?_
    cases cb
    · exact r3
    · exact r2
  · cases hr
theorem ok_nilCheck (P : Program) (x : Operand) : Ok P (.nilCheck x) := by
  intro vop xs hc
  simp only [cOp, Option.some.injEq, Prod.mk.injEq, VAct.op.injEq] at hc
  obtain ⟨rfl, rfl⟩ := hc
  intro o ho φ h nx w ρ args v h' hr s _ ha
  obtain ⟨dst, op, type, pos, after, guard⟩ := o
  simp only at ho; subst ho
  simp only [VOp.run] at hr
  unfold rNilchk at hr
  split at hr
  · cases hr
    obtain ⟨l, e1, e2⟩ := arg1 ha
    exact pure_ok (v' := ρ x) s (by rw [e2]; simp [execOp, e2]) (arg1 ha)
  · cases hr
    obtain ⟨vs, us, e2, _, _⟩ := arg1 ha
    exact pure_ok (v' := ρ x) s (by rw [e2]; simp [execOp, e2]) (arg1 ha)
  · cases hr
theorem unary_ok {P : Program} {w : World} {φ : Emb} {u : UnOp} {x r : SV} {v : Value} (hr : unSV u x = some r) (hv : SRel φ x v) :
    ∃ v', (Op.unary u v).run P w = .ok v' w ∧ SRel φ r v' := by
  unfold unSV at hr
  split at hr
  · next k n => cases hr; cases hv; exact ⟨_, by simp [Op.unary, Op.intArith], rfl⟩
  · next k n => cases hr; cases hv; exact ⟨_, by simp [Op.unary, Op.intBits], rfl⟩
  · next b => cases hr; cases hv; exact ⟨_, by simp [Op.unary], rfl⟩
  · cases hr
theorem ok_unOp (P : Program) (u : UnOp) (t : TypeId) (x : Operand) : Ok P (.unOp u t x) := by
  intro vop xs hc
  simp only [cOp, Option.some.injEq, Prod.mk.injEq, VAct.op.injEq] at hc
  obtain ⟨rfl, rfl⟩ := hc
  intro o ho φ h nx w ρ args v h' hr s _ ha
  obtain ⟨dst, op, type, pos, after, guard⟩ := o
  simp only at ho; subst ho
  simp only [VOp.run] at hr
  unfold rUn at hr
  split at hr
  · next y =>
    unfold noHeapS at hr
    split at hr
    · next r hu =>
      cases hr
      obtain ⟨v', h1, h2⟩ := unary_ok (P := P) (w := w) hu (arg1 ha)
      exact pure_ok (v' := v') s (by simp [execOp, h1]) h2
    · cases hr
  · cases hr
theorem binInt_ok {P : Program} {w : World} {φ : Emb} (b : BinOp) (t : TypeId) {k k' : IntKind} {x y : Int} {r : SV}
    (hr : binSV b (.int k x) (.int k' y) = some r) : ∃ v', (binOp b t (.int k x) (.int k' y)).run P w = .ok v' w ∧ SRel φ r v' := by
  simp only [binSV] at hr
  split at hr
  · next hs =>
    unfold shiftBin at hr
    split at hr
    · cases hr
    · next hy =>
      split at hr
      · cases hr; exact ⟨_, by simp [binOp, Op.shift, hy], rfl⟩
      · cases hr; exact ⟨_, by simp [binOp, Op.shift, hy], rfl⟩
      · cases hr
  · next hs =>
    split at hr
    · next hk =>
      subst hk
      unfold intBin at hr
      split at hr
      case h_4 =>
        split at hr
        · cases hr
        · next hy => cases hr; exact ⟨_, by simp [binOp, Op.intDiv, hy], rfl⟩
      case h_5 =>
        split at hr
        · cases hr
        · next hy => cases hr; exact ⟨_, by simp [binOp, Op.intDiv, hy], rfl⟩
      case h_16 => cases hr
      all_goals (cases hr; exact ⟨_, by simp [binOp, Op.intArith, Op.intBits, Op.intCmp], rfl⟩)
    · cases hr
def bs (l : List Nat) : ByteArray := ⟨(l.map UInt8.ofNat).toArray⟩
theorem ofNat_toNat {n : Nat} (h : n < 256) : (UInt8.ofNat n).toNat = n := by simp; omega
theorem ofNat_inj {a b : Nat} (ha : a < 256) (hb : b < 256) (e : UInt8.ofNat a = UInt8.ofNat b) : a = b := by
  have := congrArg UInt8.toNat e
  rwa [ofNat_toNat ha, ofNat_toNat hb] at this
theorem map_ofNat_inj : ∀ {l m : List Nat}, (∀ n ∈ l, n < 256) → (∀ n ∈ m, n < 256) → l.map UInt8.ofNat = m.map UInt8.ofNat → l = m
  | [], [], _, _, _ => rfl
  | [], _ :: _, _, _, e => by simp at e
  | _ :: _, [], _, _, e => by simp at e
  | a :: l, b :: m, hl, hm, e => by
    simp only [List.map_cons, List.cons.injEq] at e
    rw [ofNat_inj (hl a (by simp)) (hm b (by simp)) e.1, map_ofNat_inj (fun n h => hl n (by simp [h])) (fun n h => hm n (by simp [h])) e.2]
theorem bs_toList (l : List Nat) : (bs l).toList = l.map UInt8.ofNat := by
  rw [ByteArray.toList_eq]
  rfl
end Go.Vm
end
section
namespace Go.Vm
open Key (kn)
section
variable {P : Program} {w : World} {φ : Emb}
def CellsRel (P : Program) (φ : Emb) (t : TypeId) (xs : List SV) (v : Value) : Prop :=
  (shapeOf P t = some none ∧ ∃ x, xs = [x] ∧ SRel φ x v) ∨ (∃ n, shapeOf P t = some (some n) ∧ ∃ vs : List Value, v = .agg vs.toArray ∧ All₂ (SRel φ) xs vs)
theorem shapeOf_none {t : TypeId} (h : shapeOf P t = some none) : (isAgg t).run P w = .ok false w := by
  unfold shapeOf at h
  cases hd : P.underlying t with
  | none => simp [hd] at h
  | some d => cases hi : P.info? t with
    | none => cases d <;> simp [hd, hi] at h
    | some i => cases d <;> simp [hd, hi] at h <;> simp [isAgg, run_underlying hd]
theorem shapeOf_some {t : TypeId} {n : Nat} (h : shapeOf P t = some (some n)) : (isAgg t).run P w = .ok true w ∧ sizeT P t = some n := by
  unfold shapeOf at h
  split at h
  · next fs i hd hi => cases h; exact ⟨by simp [isAgg, run_underlying hd], by simp [sizeT, hi]⟩
  · next n e i hd hi => cases h; exact ⟨by simp [isAgg, run_underlying hd], by simp [sizeT, hi]⟩
  · cases h
  · cases h
theorem eqCells_len : ∀ {ks : List LeafK} {xs ys : List SV} {r : Bool}, eqCells ks xs ys = some r → xs.length = ks.length ∧ ys.length = ks.length
  | [], [], [], _, _ => by simp
  | [], [], _ :: _, _, h => by simp [eqCells] at h
  | [], _ :: _, _, _, h => by simp [eqCells] at h
  | _ :: _, [], _, _, h => by simp [eqCells] at h
  | _ :: _, _ :: _, [], _, h => by simp [eqCells] at h
  | k :: ks, x :: xs, y :: ys, r, h => by
    simp only [eqCells] at h
    split at h
    · split at h
      · next q hq => have := eqCells_len hq; simp [this]
      · cases h
    · cases h
theorem eqCells_split : ∀ (l q : List LeafK) {xs ys : List SV} {r : Bool}, eqCells (l ++ q) xs ys = some r →
    ∃ r1 r2, eqCells l (xs.take l.length) (ys.take l.length) = some r1 ∧ eqCells q (xs.drop l.length) (ys.drop l.length) = some r2 ∧ r = (r1 && r2)
  | [], q, xs, ys, r, h => ⟨true, r, by simp [eqCells], by simpa using h, by simp⟩
  | k :: l, q, [], ys, r, h => by simp [eqCells] at h
  | k :: l, q, x :: xs, [], r, h => by simp [eqCells] at h
  | k :: l, q, x :: xs, y :: ys, r, h => by
    simp only [List.cons_append, eqCells] at h
    split at h
    · next r0 h0 =>
      split at h
      · next q0 hq =>
        cases h
        obtain ⟨r1, r2, h1, h2, rfl⟩ := eqCells_split l q hq
        exact ⟨r0 && r1, r2, by simp [eqCells, h0, h1], by simpa using h2, by cases r0 <;> simp⟩
      · cases h
    · cases h
theorem str_beq {a b : List Nat} (ha : ∀ n ∈ a, n < 256) (hb : ∀ n ∈ b, n < 256) : (a.map UInt8.ofNat == b.map UInt8.ofNat) = (a == b) := by
  by_cases h : a = b
  · subst h; simp
  · have : a.map UInt8.ofNat ≠ b.map UInt8.ofNat := fun e => h (map_ofNat_inj ha hb e)
    rw [beq_eq_false_iff_ne.2 this, beq_eq_false_iff_ne.2 h]
theorem eqCell_ok {t : TypeId} {k : LeafK} {x y : SV} {r : Bool} {vx vy : Value} (d : Nat) (ht : match k with | .bool => P.underlying t = some .bool | .int => ∃ i, P.underlying t = some (.int i) | .str => P.underlying t = some .string)
    (h : eqCell k x y = some r) (hx : SRel φ x vx) (hy : SRel φ y vy) : (Op.equalIn (d + 1) t vx vy).run P w = .ok r w := by
  unfold eqCell at h
  split at h
  · cases h; cases hx; cases hy; exact run_equalIn_bool' w d t _ _ ht
  · split at h
    · next hk =>
      subst hk
      cases h; cases hx; cases hy
      obtain ⟨i, hi⟩ := ht
      exact run_equalIn_int w d t _ i _ _ hi
    · cases h
  · cases h
    obtain ⟨ha, rfl⟩ := hx
    obtain ⟨hb, rfl⟩ := hy
    rw [run_equalIn_string w d t _ _ ht]
    rw [show (⟨(_ : List UInt8).toArray⟩ : ByteArray).toList = _ from ByteArray.toList_mk _, show (⟨(_ : List UInt8).toArray⟩ : ByteArray).toList = _ from ByteArray.toList_mk _]
    rw [str_beq ha hb]
  · cases h
theorem take1 {α : Type} (xs : List α) (i : Nat) (h : i < xs.length) : (xs.drop i).take 1 = [xs[i]] := by
  have e := List.drop_eq_getElem_cons h
  rw [e]; rfl
theorem part_ok {t : TypeId} {n off : Nat} {vs : List Value} {xs : List SV} (hs : (shapeOf P t).isSome) (hn : sizeT P t = some n) (hv : All₂ (SRel φ) xs vs) (hle : off + n ≤ xs.length) (h1 : shapeOf P t = some none → n = 1) :
    ∃ v, (part t vs.toArray off).run P w = .ok v w ∧ CellsRel P φ t ((xs.drop off).take n) v := by
  have hl := forall₂_len hv
  cases hsh : shapeOf P t with
  | none => simp [hsh] at hs
  | some o => cases o with
    | none =>
      have hn1 := h1 hsh
      subst hn1
      obtain ⟨v, e1, e2⟩ := forall₂_get hv off (a := xs[off]) (by simp)
      refine ⟨v, by simp [part, shapeOf_none hsh, e1], .inl ⟨hsh, xs[off], ?_, e2⟩⟩
      exact take1 xs off (by omega)
    | some m =>
      obtain ⟨ha, hm⟩ := shapeOf_some (w := w) hsh
      rw [hn] at hm; cases hm
      refine ⟨.agg ((vs.drop off).take n).toArray, ?_, .inr ⟨n, hsh, _, rfl, forall₂_take _ (forall₂_drop _ hv)⟩⟩
      simp only [part, Sem.run_bind, ha, Result.andThen_ok, if_true, run_sizeOf hn, Sem.run_pure]
      congr 2
      apply Array.ext'
      simp
theorem leavesF_ok {lv : TypeId → Option (List LeafK)} {D : Nat}
    (ih : ∀ (t : TypeId) (ks : List LeafK), lv t = some ks → (shapeOf P t = some none → ks.length = 1) ∧ ∀ (xs ys : List SV) (vx vy : Value) (r : Bool), eqCells ks xs ys = some r → CellsRel P φ t xs vx → CellsRel P φ t ys vy → (Op.equalIn D t vx vy).run P w = .ok r w) :
    ∀ (fs : List Field) (off : Nat) (q : List LeafK), leavesF P lv fs off = some q → ∀ (xs ys : List SV) (vx vy : List Value) (r : Bool), All₂ (SRel φ) xs vx → All₂ (SRel φ) ys vy →
      eqCells q (xs.drop off) (ys.drop off) = some r → off ≤ xs.length → off ≤ ys.length → (Op.eqFields D vx.toArray vy.toArray fs).run P w = .ok r w
  | [], off, q, h, xs, ys, vx, vy, r, hx, hy, he, _, _ => by
    simp only [leavesF, Option.some.injEq] at h
    subst h
    have := eqCells_len he
    have e1 : xs.drop off = [] := List.eq_nil_of_length_eq_zero this.1
    have e2 : ys.drop off = [] := List.eq_nil_of_length_eq_zero this.2
    rw [e1, e2] at he
    simp [eqCells] at he
    subst he
    simp [Op.eqFields]
  | f :: fs, off, q, h, xs, ys, vx, vy, r, hx, hy, he, ho1, ho2 => by
    simp only [leavesF] at h
    split at h
    · next hc =>
      obtain ⟨hname, hoff, hsh⟩ := hc
      split at h
      · next l hl =>
        split at h
        · next hsz =>
          split at h
          · next q' hq =>
            cases h
            obtain ⟨r1, r2, e1, e2, rfl⟩ := eqCells_split l q' he
            have hlen := eqCells_len e1
            simp only [List.length_take, List.length_drop] at hlen
            obtain ⟨hone, hih⟩ := ih f.type l hl
            have hl1 : off + l.length ≤ xs.length := by omega
            have hl2 : off + l.length ≤ ys.length := by omega
            obtain ⟨a, ha, hca⟩ := part_ok (w := w) (off := off) hsh hsz hx hl1 hone
            obtain ⟨b, hb, hcb⟩ := part_ok (w := w) (off := off) hsh hsz hy hl2 hone
            have heq := hih _ _ a b r1 e1 hca hcb
            simp only [Op.eqFields, hname, ne_eq, not_false_eq_true, if_true, Sem.run_bind, hoff, ha, hb, Result.andThen_ok, heq]
            cases r1
            · simp
            · simp only [Bool.not_true, Bool.false_eq_true, if_false, Bool.true_and]
              exact leavesF_ok ih fs (off + l.length) q' hq xs ys vx vy r2 hx hy (by rw [← List.drop_drop, ← List.drop_drop]; exact e2) hl1 hl2
          · cases h
        · cases h
      · cases h
    · cases h
theorem array_ok {t : TypeId} {D n : Nat} {l : List LeafK} (hs : (shapeOf P t).isSome) (hn : sizeT P t = some l.length)
    (h1 : shapeOf P t = some none → l.length = 1) (hih : ∀ (xs ys : List SV) (vx vy : Value) (r : Bool), eqCells l xs ys = some r → CellsRel P φ t xs vx → CellsRel P φ t ys vy → (Op.equalIn D t vx vy).run P w = .ok r w)
    (xs ys : List SV) (vx vy : List Value) (hx : All₂ (SRel φ) xs vx) (hy : All₂ (SRel φ) ys vy) :
    ∀ (m i : Nat) (r : Bool), i + m = n → eqCells (repl l m) (xs.drop (i * l.length)) (ys.drop (i * l.length)) = some r → i * l.length ≤ xs.length → i * l.length ≤ ys.length →
    (forIn (m := Sem) (List.range' i m) ((none, ()) : Option Bool × Unit) (fun i _ => do
      let a ← part t vx.toArray (i * l.length)
      let b ← part t vy.toArray (i * l.length)
      let r ← Op.equalIn D t a b
      if (!r) = true then pure (ForInStep.done (some false, ())) else pure (ForInStep.yield (none, ())))).run P w =
      .ok (if r then (none, ()) else (some false, ())) w
  | 0, i, r, _, he, _, _ => by
    simp only [repl] at he
    have := eqCells_len he
    have e1 : xs.drop (i * l.length) = [] := List.eq_nil_of_length_eq_zero this.1
    have e2 : ys.drop (i * l.length) = [] := List.eq_nil_of_length_eq_zero this.2
    rw [e1, e2] at he
    simp [eqCells] at he
    subst he
    simp
  | m + 1, i, r, hi, he, ho1, ho2 => by
    simp only [repl] at he
    obtain ⟨r1, r2, e1, e2, rfl⟩ := eqCells_split l _ he
    have hlen := eqCells_len e1
    simp only [List.length_take, List.length_drop] at hlen
    have hl1 : i * l.length + l.length ≤ xs.length := by omega
    have hl2 : i * l.length + l.length ≤ ys.length := by omega
    obtain ⟨a, ha, hca⟩ := part_ok (w := w) (off := i * l.length) hs hn hx hl1 h1
    obtain ⟨b, hb, hcb⟩ := part_ok (w := w) (off := i * l.length) hs hn hy hl2 h1
    have heq := hih _ _ a b r1 e1 hca hcb
    have hsucc : (i + 1) * l.length = i * l.length + l.length := by rw [Nat.add_mul, Nat.one_mul]
    simp only [List.range'_succ, List.forIn_cons, Sem.run_bind, ha, hb, Result.andThen_ok, heq]
    cases r1
    · simp
    · simp only [Bool.not_true, Bool.false_eq_true, if_false, Sem.run_pure, Result.andThen_ok, Bool.true_and]
      exact array_ok (n := n) hs hn h1 hih xs ys vx vy hx hy m (i + 1) r2 (by omega) (by rw [hsucc, ← List.drop_drop, ← List.drop_drop]; exact e2) (by rw [hsucc]; exact hl1) (by rw [hsucc]; exact hl2)
theorem leaves_ok : ∀ (d : Nat) (t : TypeId) (ks : List LeafK), leaves P d t = some ks → (shapeOf P t = some none → ks.length = 1) ∧
    ∀ (D : Nat), d ≤ D → ∀ (xs ys : List SV) (vx vy : Value) (r : Bool), eqCells ks xs ys = some r → CellsRel P φ t xs vx → CellsRel P φ t ys vy → (Op.equalIn D t vx vy).run P w = .ok r w
  | 0, t, ks, h => by simp [leaves] at h
  | d + 1, t, ks, h => by
    have scalar : ∀ (k : LeafK), (∀ n, shapeOf P t ≠ some (some n)) → (match k with | .bool => P.underlying t = some .bool | .int => ∃ i, P.underlying t = some (.int i) | .str => P.underlying t = some .string) → ks = [k] →
        (shapeOf P t = some none → ks.length = 1) ∧ ∀ (D : Nat), d + 1 ≤ D → ∀ (xs ys : List SV) (vx vy : Value) (r : Bool), eqCells ks xs ys = some r → CellsRel P φ t xs vx → CellsRel P φ t ys vy → (Op.equalIn D t vx vy).run P w = .ok r w := by
      rintro k hno ht rfl
      refine ⟨fun _ => rfl, fun D hD xs ys vx vy r he hx hy => ?_⟩
      rcases hx with ⟨_, x, rfl, hx⟩ | ⟨n, hn, _⟩
      · rcases hy with ⟨_, y, rfl, hy⟩ | ⟨n, hn, _⟩
        · simp only [eqCells] at he
          split at he
          · next r0 h0 =>
            simp at he; subst he
            obtain ⟨D, rfl⟩ : ∃ D', D = D' + 1 := ⟨D - 1, by omega⟩
            exact eqCell_ok D ht h0 hx hy
          · cases he
        · exact absurd hn (hno n)
      · exact absurd hn (hno n)
    have noagg : (∀ fs, P.underlying t ≠ some (.struct fs)) → (∀ n e, P.underlying t ≠ some (.array n e)) → ∀ n, shapeOf P t ≠ some (some n) := fun h1 h2 n hn => by
      unfold shapeOf at hn
      cases hd : P.underlying t with
      | none => simp [hd] at hn
      | some dd => cases hi : P.info? t with
        | none => cases dd <;> simp [hd, hi] at hn
        | some i => cases dd <;> simp [hd, hi] at hn <;> first | exact h1 _ hd | exact h2 _ _ hd
    simp only [leaves] at h
    split at h
    · next hu => cases h; exact scalar .bool (noagg (by simp [hu]) (by simp [hu])) hu rfl
    · next i hu => cases h; exact scalar .int (noagg (by simp [hu]) (by simp [hu])) ⟨i, hu⟩ rfl
    · next hu => cases h; exact scalar .str (noagg (by simp [hu]) (by simp [hu])) hu rfl
    · next fs hu =>
      split at h
      · cases h
      · next hst =>
        have hsh : shapeOf P t ≠ some none := fun e => by
          unfold shapeOf at e
          cases hi : P.info? t <;> simp [hu, hi] at e
        refine ⟨fun e => absurd e hsh, fun D hD xs ys vx vy r he hx hy => ?_⟩
        rcases hx with ⟨hn, _⟩ | ⟨n, _, vx, rfl, hx⟩
        · exact absurd hn hsh
        · rcases hy with ⟨hn, _⟩ | ⟨n, _, vy, rfl, hy⟩
          · exact absurd hn hsh
          · obtain ⟨D, rfl⟩ : ∃ D', D = D' + 1 := ⟨D - 1, by omega⟩
            have hf : P.fieldsOf t = fs := by simp [Program.fieldsOf, hu]
            rw [run_equalIn_struct w D t _ _ (by rw [hf]; exact hu) (by simpa using hst), hf]
            exact leavesF_ok (lv := leaves P d) (D := D) (fun t' ks' h' => ⟨(leaves_ok d t' ks' h').1, (leaves_ok d t' ks' h').2 D (by omega)⟩) fs.toList 0 ks h xs ys vx vy r hx hy (by simpa using he) (by omega) (by omega)
    · next n e hu =>
      split at h
      · next hc =>
        split at h
        · next l hl =>
          split at h
          · next hsz =>
            cases h
            have hsh : shapeOf P t ≠ some none := fun e => by
              unfold shapeOf at e
              cases hi : P.info? t <;> simp [hu, hi] at e
            refine ⟨fun e => absurd e hsh, fun D hD xs ys vx vy r he hx hy => ?_⟩
            rcases hx with ⟨hn, _⟩ | ⟨_, _, vx, rfl, hx⟩
            · exact absurd hn hsh
            · rcases hy with ⟨hn, _⟩ | ⟨_, _, vy, rfl, hy⟩
              · exact absurd hn hsh
              · obtain ⟨D, rfl⟩ : ∃ D', D = D' + 1 := ⟨D - 1, by omega⟩
                obtain ⟨hone, hih⟩ := leaves_ok d e l hl
                have hloop := array_ok (D := D) (n := n) hc.1 hsz hone (hih D (by omega)) xs ys vx vy hx hy n 0 r (by omega) (by simpa using he) (by omega) (by omega)
                simp only [Op.equalIn, Sem.run_bind, run_underlying hu, Result.andThen_ok, run_sizeOf hsz]
                rw [Std.Legacy.Range.forIn_eq_forIn_range']
                simp only [Std.Legacy.Range.size, Nat.sub_zero, Nat.add_one_sub_one, Nat.div_one]
                rw [hloop]
                cases r <;> simp
          · cases h
        · cases h
      · cases h
    · cases h
end
end Go.Vm
end
section
namespace Go.Vm
open Key (kn)
theorem bs_size (l : List Nat) : (bs l).size = l.length := by simp [bs, ByteArray.size]
theorem bs_append (a b : List Nat) : bs a ++ bs b = bs (a ++ b) := by
  apply ByteArray.ext
  simp [bs, ByteArray.data_append]
theorem strLess_ok : ∀ {a b : List Nat}, (∀ n ∈ a, n < 256) → (∀ n ∈ b, n < 256) → Op.bytesLess (a.map UInt8.ofNat) (b.map UInt8.ofNat) = strLess a b
  | _, [], _, _ => by simp [Op.bytesLess, strLess]
  | [], _ :: _, _, _ => by simp [Op.bytesLess, strLess]
  | x :: a, y :: b, ha, hb => by
    have hx := ha x (by simp)
    have hy := hb y (by simp)
    have ih := strLess_ok (a := a) (b := b) (fun n h => ha n (by simp [h])) (fun n h => hb n (by simp [h]))
    simp only [List.map_cons, Op.bytesLess, strLess, ih]
    have e1 : decide (UInt8.ofNat x < UInt8.ofNat y) = Nat.blt x y := by
      rw [Bool.eq_iff_iff]
      simp only [decide_eq_true_eq, UInt8.lt_iff_toNat_lt, ofNat_toNat hx, ofNat_toNat hy, Nat.blt_eq]
    have e2 : (UInt8.ofNat x == UInt8.ofNat y) = Nat.beq x y := by
      rw [Bool.eq_iff_iff, beq_iff_eq, Nat.beq_eq]
      exact ⟨fun e => ofNat_inj hx hy e, fun e => by rw [e]⟩
    rw [e1, e2]
theorem binStr_ok {P : Program} {w : World} {φ : Emb} (b : BinOp) (t : TypeId) {x y : List Nat} {r : SV} (hx : ∀ n ∈ x, n < 256) (hy : ∀ n ∈ y, n < 256)
    (hr : strBin b x y = some r) : ∃ v', (binOp b t (.string (bs x)) (.string (bs y))).run P w = .ok v' w ∧ SRel φ r v' := by
  have eq : (x.map UInt8.ofNat == y.map UInt8.ofNat) = (x == y) := str_beq hx hy
  have lt := strLess_ok hx hy
  unfold strBin at hr
  split at hr
  · split at hr
    · next hl =>
      cases hr
      have hn : ¬ (9223372036854775807 < ((x.length : Int) + (y.length : Int))) := by omega
      refine ⟨.string (bs (x ++ y)), ?_, fun n hn => ?_, rfl⟩
      · simp [binOp, Op.stringOp, bs_size, bs_append, IntKind.max, IntKind.signed, IntKind.bits, hn]
      · rcases List.mem_append.1 hn with h | h
        · exact hx n h
        · exact hy n h
    · cases hr
  · cases hr; exact ⟨_, by simp [binOp, Op.stringOp, bs_toList, eq], rfl⟩
  · cases hr; exact ⟨_, by simp [binOp, Op.stringOp, bs_toList, eq], rfl⟩
  · cases hr; exact ⟨_, by simp [binOp, Op.stringOp, bs_toList, lt], rfl⟩
  · cases hr; exact ⟨_, by simp [binOp, Op.stringOp, bs_toList, lt, eq], rfl⟩
  · cases hr; exact ⟨_, by simp [binOp, Op.stringOp, bs_toList, lt, eq], rfl⟩
  · cases hr; exact ⟨_, by simp [binOp, Op.stringOp, bs_toList, lt], rfl⟩
  · cases hr
theorem binSV_ok {P : Program} {w : World} {φ : Emb} (b : BinOp) (t : TypeId) (x y : Operand) {s1 s2 r : SV} {v1 v2 : Value} (h1 : SRel φ s1 v1) (h2 : SRel φ s2 v2)
    (hr : binSV b s1 s2 = some r) : ∃ v', (do eqGuard b t x y v1 v2; binOp b t v1 v2).run P w = .ok v' w ∧ SRel φ r v' := by
  unfold binSV at hr
  split at hr
  · next k a k' c =>
    cases h1; cases h2
    obtain ⟨v', e1, e2⟩ := binInt_ok (P := P) (w := w) (φ := φ) b t (k := k) (k' := k') (x := a) (y := c) (r := r) (by simpa [binSV] using hr)
    exact ⟨v', by simp [eqGuard_int, e1], e2⟩
  · next a c =>
    obtain ⟨ha, rfl⟩ := h1
    obtain ⟨hc, rfl⟩ := h2
    obtain ⟨v', e1, e2⟩ := binStr_ok (P := P) (w := w) (φ := φ) b t ha hc hr
    exact ⟨v', by simp only [Sem.run_bind, eqGuard_string, Result.andThen_ok]; exact e1, e2⟩
  · cases hr
theorem info_of_underlying {P : Program} {t : TypeId} {d : TypeDesc} (h : P.underlying t = some d) : ∃ i, P.info? t = some i := by
  unfold Program.underlying at h
  cases hi : P.info? t with
  | none => simp [hi] at h
  | some i => exact ⟨i, rfl⟩
theorem eqKind_spec {P : Program} {t : TypeId} {k : EqK} (hk : eqKind P t = some k) : match k with
    | .bool => P.underlying t = some .bool
    | .ptr => ∃ e, P.underlying t = some (.pointer e)
    | .slice => ∃ e, P.underlying t = some (.slice e)
    | .map => ∃ a b, P.underlying t = some (.map a b)
    | .func => ∃ a b c, P.underlying t = some (.func a b c)
    | .agg ks => P.eqGuardType P.depth t = false ∧ leaves P 20 t = some ks ∧ ∃ n, shapeOf P t = some (some n) := by
  unfold eqKind at hk
  split at hk
  · next hu => cases hk; exact hu
  · next e hu => cases hk; exact ⟨e, hu⟩
  · next e hu => cases hk; exact ⟨e, hu⟩
  · next a b hu => cases hk; exact ⟨a, b, hu⟩
  · next a b c hu => cases hk; exact ⟨a, b, c, hu⟩
  · next fs hu =>
    split at hk
    · cases hk
    · next hg =>
      obtain ⟨i, hi⟩ := info_of_underlying hu
      cases hl : leaves P 20 t with
      | none => simp [hl] at hk
      | some ks => simp [hl] at hk; subst hk; exact ⟨by simpa using hg, rfl, i.size, by simp [shapeOf, hu, hi]⟩
  · next n e hu =>
    split at hk
    · cases hk
    · next hg =>
      obtain ⟨i, hi⟩ := info_of_underlying hu
      cases hl : leaves P 20 t with
      | none => simp [hl] at hk
      | some ks => simp [hl] at hk; subst hk; exact ⟨by simpa using hg, rfl, i.size, by simp [shapeOf, hu, hi]⟩
  · cases hk
section
variable {P : Program} (w : World) (d : Nat) (t : TypeId)
theorem eqIn_ptr (e : TypeId) (hu : P.underlying t = some (.pointer e)) (b : Option Addr) : (Op.equalIn (d + 1) t (.pointer none) (.pointer b)).run P w = .ok b.isNone w := by simp [Op.equalIn, run_underlying hu]
theorem eqIn_ptr' (e : TypeId) (hu : P.underlying t = some (.pointer e)) (a : Addr) : (Op.equalIn (d + 1) t (.pointer (some a)) (.pointer none)).run P w = .ok false w := by simp [Op.equalIn, run_underlying hu]
theorem eqIn_slice (e : TypeId) (hu : P.underlying t = some (.slice e)) (b : Option Addr) (n m n' m' : Nat) : (Op.equalIn (d + 1) t (.slice none n m) (.slice b n' m')).run P w = .ok b.isNone w := by simp [Op.equalIn, run_underlying hu]
theorem eqIn_slice' (e : TypeId) (hu : P.underlying t = some (.slice e)) (a : Addr) (n m n' m' : Nat) : (Op.equalIn (d + 1) t (.slice (some a) n m) (.slice none n' m')).run P w = .ok false w := by simp [Op.equalIn, run_underlying hu]
theorem eqIn_map (e e' : TypeId) (hu : P.underlying t = some (.map e e')) (b : Option Nat) : (Op.equalIn (d + 1) t (.map none) (.map b)).run P w = .ok b.isNone w := by simp [Op.equalIn, run_underlying hu]
theorem eqIn_map' (e e' : TypeId) (hu : P.underlying t = some (.map e e')) (a : Nat) : (Op.equalIn (d + 1) t (.map (some a)) (.map none)).run P w = .ok false w := by simp [Op.equalIn, run_underlying hu]
theorem eqIn_func (e e' : Array TypeId) (e'' : Bool) (hu : P.underlying t = some (.func e e' e'')) : (Op.equalIn (d + 1) t .nilFunc .nilFunc).run P w = .ok true w := by simp [Op.equalIn, run_underlying hu]
theorem eqIn_func' (e e' : Array TypeId) (e'' : Bool) (hu : P.underlying t = some (.func e e' e'')) (f : Fn) (x y : Array Value) : (Op.equalIn (d + 1) t .nilFunc (.func f x y)).run P w = .ok false w := by simp [Op.equalIn, run_underlying hu]
theorem eqIn_func'' (e e' : Array TypeId) (e'' : Bool) (hu : P.underlying t = some (.func e e' e'')) (f : Fn) (x y : Array Value) : (Op.equalIn (d + 1) t (.func f x y) .nilFunc).run P w = .ok false w := by simp [Op.equalIn, run_underlying hu]
end
theorem eqSV_ok {P : Program} {w : World} {φ : Emb} {t : TypeId} {k : EqK} (hk : eqKind P t = some k) {x y : CV} {v1 v2 : Value} {r neg : Bool} (h1 : CRel φ x v1) (h2 : CRel φ y v2) (b : BinOp) (hb : (b = .eql ∧ neg = false) ∨ (b = .neq ∧ neg = true)) (p q : Operand)
    (hr : eqSV k x y = some r) : (do eqGuard b t p q v1 v2; binOp b t v1 v2).run P w = .ok (.bool (r != neg)) w := by
  have spec := eqKind_spec hk
  unfold eqSV at hr
  split at hr
  case h_1 a c =>
    cases hr; cases h1; cases h2
    rcases hb with ⟨rfl, rfl⟩ | ⟨rfl, rfl⟩ <;> simp [eqGuard, binOp, Op.equal, Op.maxDepth, run_equalIn_bool' w _ t a c spec]
  case h_2 =>
    cases hr; cases h1; cases h2; obtain ⟨e, hu⟩ := spec
    rcases hb with ⟨rfl, rfl⟩ | ⟨rfl, rfl⟩ <;> simp [eqGuard, binOp, Op.equal, Op.maxDepth, eqIn_ptr w _ t e hu]
  case h_3 =>
    cases hr; cases h1; obtain ⟨l, _, rfl⟩ := h2; obtain ⟨e, hu⟩ := spec
    rcases hb with ⟨rfl, rfl⟩ | ⟨rfl, rfl⟩ <;> simp [eqGuard, binOp, Op.equal, Op.maxDepth, eqIn_ptr w _ t e hu]
  case h_4 =>
    cases hr; cases h2; obtain ⟨l, _, rfl⟩ := h1; obtain ⟨e, hu⟩ := spec
    rcases hb with ⟨rfl, rfl⟩ | ⟨rfl, rfl⟩ <;> simp [eqGuard, binOp, Op.equal, Op.maxDepth, eqIn_ptr' w _ t e hu]
  case h_5 =>
    cases hr; cases h1; cases h2; obtain ⟨e, hu⟩ := spec
    rcases hb with ⟨rfl, rfl⟩ | ⟨rfl, rfl⟩ <;> simp [eqGuard, binOp, Op.equal, Op.maxDepth, eqIn_slice w _ t e hu]
  case h_6 =>
    cases hr; cases h1; obtain ⟨a, c, rfl, _⟩ := h2; obtain ⟨e, hu⟩ := spec
    rcases hb with ⟨rfl, rfl⟩ | ⟨rfl, rfl⟩ <;> simp [eqGuard, binOp, Op.equal, Op.maxDepth, eqIn_slice w _ t e hu]
  case h_7 =>
    cases hr; cases h2; obtain ⟨a, c, rfl, _⟩ := h1; obtain ⟨e, hu⟩ := spec
    rcases hb with ⟨rfl, rfl⟩ | ⟨rfl, rfl⟩ <;> simp [eqGuard, binOp, Op.equal, Op.maxDepth, eqIn_slice' w _ t e hu]
  case h_8 =>
    cases hr; cases h1; cases h2; obtain ⟨e, e', hu⟩ := spec
    rcases hb with ⟨rfl, rfl⟩ | ⟨rfl, rfl⟩ <;> simp [eqGuard, binOp, Op.equal, Op.maxDepth, eqIn_map w _ t e e' hu]
  case h_9 =>
    cases hr; cases h1; obtain ⟨l, _, rfl⟩ := h2; obtain ⟨e, e', hu⟩ := spec
    rcases hb with ⟨rfl, rfl⟩ | ⟨rfl, rfl⟩ <;> simp [eqGuard, binOp, Op.equal, Op.maxDepth, eqIn_map w _ t e e' hu]
  case h_10 =>
    cases hr; cases h2; obtain ⟨l, _, rfl⟩ := h1; obtain ⟨e, e', hu⟩ := spec
    rcases hb with ⟨rfl, rfl⟩ | ⟨rfl, rfl⟩ <;> simp [eqGuard, binOp, Op.equal, Op.maxDepth, eqIn_map' w _ t e e' hu]
  case h_11 =>
    cases hr; cases h1; cases h2; obtain ⟨e, e', e'', hu⟩ := spec
    rcases hb with ⟨rfl, rfl⟩ | ⟨rfl, rfl⟩ <;> simp [eqGuard, binOp, Op.equal, Op.maxDepth, eqIn_func w _ t e e' e'' hu]
  case h_12 =>
    cases hr; cases h1; obtain ⟨vs, us, rfl, _⟩ := h2; obtain ⟨e, e', e'', hu⟩ := spec
    rcases hb with ⟨rfl, rfl⟩ | ⟨rfl, rfl⟩ <;> simp [eqGuard, binOp, Op.equal, Op.maxDepth, eqIn_func' w _ t e e' e'' hu]
  case h_13 =>
    cases hr; cases h2; obtain ⟨vs, us, rfl, _⟩ := h1; obtain ⟨e, e', e'', hu⟩ := spec
    rcases hb with ⟨rfl, rfl⟩ | ⟨rfl, rfl⟩ <;> simp [eqGuard, binOp, Op.equal, Op.maxDepth, eqIn_func'' w _ t e e' e'' hu]
  case h_14 ks xs ys =>
    obtain ⟨hg, hl, n, hn⟩ := spec
    obtain ⟨vx, rfl, hx⟩ := h1
    obtain ⟨vy, rfl, hy⟩ := h2
    have he := (leaves_ok (P := P) (w := w) (φ := φ) 20 t ks hl).2 10000 (by omega) xs ys (.agg vx.toArray) (.agg vy.toArray) r hr (.inr ⟨n, hn, vx, rfl, hx⟩) (.inr ⟨n, hn, vy, rfl, hy⟩)
    rcases hb with ⟨rfl, rfl⟩ | ⟨rfl, rfl⟩ <;> simp [run_eqGuard_agg w _ t p q _ _ hg, binOp, Op.equal, Op.maxDepth, he]
  case h_15 => cases hr
end Go.Vm
end
section
namespace Go.Vm
open Key (kn)
theorem okAt_bin {P : Program} (b : BinOp) (t : TypeId) (x y : Operand) (yt : TypeId) : OkAt P (.binOp b t x y yt) (.bin b) [x, y] := by
  intro o ho φ h nx w ρ args v h' hr s _ ha
  obtain ⟨dst, op, type, pos, after, guard⟩ := o
  simp only at ho; subst ho
  simp only [VOp.run] at hr
  unfold rBin at hr
  split at hr
  · next s1 s2 =>
    unfold noHeapS at hr
    split at hr
    · next r hbin =>
      cases hr
      obtain ⟨h1, h2⟩ := arg2 ha
      obtain ⟨v', e1, e2⟩ := binSV_ok (P := P) (w := w) b t x y h1 h2 hbin
      refine pure_ok (v' := v') s ?_ e2
      simp only [execOp, Sem.run_bind] at e1 ⊢
      rw [e1]; rfl
    · cases hr
  · cases hr
theorem okAt_eq {P : Program} (b : BinOp) (neg : Bool) (hb : (b = .eql ∧ neg = false) ∨ (b = .neq ∧ neg = true)) (t : TypeId) (x y : Operand) (yt : TypeId) {k : EqK} (hk : eqKind P t = some k) : OkAt P (.binOp b t x y yt) (.eq neg k) [x, y] := by
  intro o ho φ h nx w ρ args v h' hr s _ ha
  obtain ⟨dst, op, type, pos, after, guard⟩ := o
  simp only at ho; subst ho
  simp only [VOp.run] at hr
  unfold rEq at hr
  split at hr
  · next c1 c2 =>
    split at hr
    · next r he =>
      cases hr
      obtain ⟨h1, h2⟩ := arg2 ha
      have e1 := eqSV_ok (P := P) (w := w) hk h1 h2 b hb x y he
      refine pure_ok (v' := .bool (r != neg)) s ?_ rfl
      simp only [execOp, Sem.run_bind] at e1 ⊢
      rw [e1]; rfl
    · cases hr
  · cases hr
theorem ok_binOp (P : Program) (b : BinOp) (t : TypeId) (x y : Operand) (yt : TypeId) : Ok P (.binOp b t x y yt) := by
  intro vop xs hc
  simp only [cOp] at hc
  split at hc
  · cases hc; exact okAt_bin b t x y yt
  · cases hc; exact okAt_bin b t x y yt
  · split at hc
    · next k hk => cases hc; exact okAt_eq _ _ (.inl ⟨rfl, rfl⟩) t x y yt hk
    · next k hk => cases hc; exact okAt_eq _ _ (.inr ⟨rfl, rfl⟩) t x y yt hk
    · cases hc
theorem okAt_conv {P : Program} (s0 d : TypeId) (x : Operand) {k j : IntKind} (hs0 : P.underlying s0 = some (.int j)) (hd : P.underlying d = some (.int k)) : OkAt P (.convert s0 d x) (.conv k) [x] := by
  intro o ho φ h nx w ρ args v h' hr s _ ha
  obtain ⟨dst, op, type, pos, after, guard⟩ := o
  simp only at ho; subst ho
  simp only [VOp.run] at hr
  unfold rConv at hr
  split at hr
  · next k' n =>
    cases hr
    have e1 : ρ x = .int k' n := arg1 ha
    exact pure_ok (v' := .int k (k.wrap n)) s (by simp [execOp, e1, convert, run_underlying hs0, run_underlying hd, Conv.intToInt]) rfl
  · cases hr
theorem partCV_ok {P : Program} {w : World} {φ : Emb} {t : TypeId} {s : Option Nat} (hs : shapeOf P t = some s) {cs : List SV} {vs : List Value} (hv : All₂ (SRel φ) cs vs) {o : Nat} {c : CV} (hp : partCV cs o s = some c) :
    ∃ v', (part t vs.toArray o).run P w = .ok v' w ∧ CRel φ c v' := by
  unfold partCV at hp
  split at hp
  · split at hp
    · next x hx =>
      cases hp
      obtain ⟨v, h1, h2⟩ := forall₂_get hv o hx
      exact ⟨v, by simp [part, shapeOf_none hs, h1], h2⟩
    · cases hp
  · next n =>
    split at hp
    · next hle =>
      cases hp
      obtain ⟨h1, h2⟩ := shapeOf_some (w := w) hs
      refine ⟨.agg ((vs.drop o).take n).toArray, ?_, _, rfl, forall₂_take _ (forall₂_drop _ hv)⟩
      simp only [part, Sem.run_bind, h1, Result.andThen_ok, if_true, run_sizeOf h2, Sem.run_pure]
      congr 2
      apply Array.ext'
      simp
    · cases hp
theorem ok_field (P : Program) (t : TypeId) (x : Operand) (f : Nat) : Ok P (.field t x f) := by
  intro vop xs hc
  simp only [cOp] at hc
  split at hc
  · next fs hu =>
    split at hc
    · next fd hf =>
      split at hc
      · next sh hsh =>
        cases hc
        intro o ho φ h nx w ρ args v h' hr s _ ha
        obtain ⟨dst, op, type, pos, after, guard⟩ := o
        simp only at ho; subst ho
        simp only [VOp.run] at hr
        unfold rField at hr
        split at hr
        · next cs =>
          unfold noHeap at hr
          split at hr
          · next c hp =>
            cases hr
            obtain ⟨vs, e1, hv⟩ := arg1 ha
            obtain ⟨v', e2, e3⟩ := partCV_ok (P := P) (w := w) hsh hv hp
            exact pure_ok (v' := v') s (by simp [execOp, Instr.field, run_underlying hu, hf, e1, asAgg, e2]) e3
          · cases hr
        · cases hr
      · cases hc
    · cases hc
  · cases hc
theorem ok_fieldAddr (P : Program) (t : TypeId) (x : Operand) (f : Nat) : Ok P (.fieldAddr t x f) := by
  intro vop xs hc
  simp only [cOp] at hc
  split at hc
  · next fs hu =>
    split at hc
    · next fd hf =>
      split at hc
      · next n hn =>
        split at hc
        · cases hc
        · next hn0 =>
          cases hc
          intro o ho φ h nx w ρ args v h' hr s _ ha
          obtain ⟨dst, op, type, pos, after, guard⟩ := o
          simp only at ho; subst ho
          simp only [VOp.run] at hr
          unfold rFaddr at hr
          split at hr
          · next b o' =>
            cases hr
            obtain ⟨l, e1, e2⟩ := arg1 ha
            refine pure_ok (v' := .pointer (some ⟨l.blk, o' + fd.offset + l.off, none⟩)) s ?_ ⟨l, e1, rfl⟩
            simp [execOp, Instr.fieldAt, run_underlying hu, hf, e2, Instr.sureAddr, fieldPlace, run_sizeOf hn, hn0, addr_add, show o' + l.off + fd.offset = o' + fd.offset + l.off from by omega]
          · cases hr
      · cases hc
    · cases hc
  · cases hc
theorem ok_indexAddr (P : Program) (t : TypeId) (x i : Operand) : Ok P (.indexAddr t x i) := by
  intro vop xs hc
  simp only [cOp] at hc
  split at hc
  · next n e hu =>
    cases hk : sizeT P e with
    | none => simp [hk] at hc
    | some k =>
      simp only [hk, Option.map_some, Option.some.injEq, Prod.mk.injEq, VAct.op.injEq] at hc
      obtain ⟨rfl, rfl⟩ := hc
      intro o ho φ h nx w ρ args v h' hr s _ ha
      obtain ⟨dst, op, type, pos, after, guard⟩ := o
      simp only at ho; subst ho
      simp only [VOp.run] at hr
      unfold rIarr at hr
      split at hr
      · next b o' k' j =>
        split at hr
        · next hj =>
          cases hr
          obtain ⟨h1, h2⟩ := arg2 ha
          obtain ⟨l, e1, e2⟩ := h1
          have e3 : ρ i = .int k' j := h2
          refine pure_ok (v' := .pointer (some ⟨l.blk, o' + j.toNat * k + l.off, none⟩)) s ?_ ⟨l, e1, rfl⟩
          simp [execOp, Instr.indexAt, run_underlying hu, e2, e3, asIntOf, Instr.sureAddr, hj.1, hj.2, run_sizeOf hk, addr_add, show o' + l.off + j.toNat * k = o' + j.toNat * k + l.off from by omega]
        · cases hr
      · cases hr
  · next e hu =>
    cases hk : sizeT P e with
    | none => simp [hk] at hc
    | some k =>
      simp only [hk, Option.map_some, Option.some.injEq, Prod.mk.injEq, VAct.op.injEq] at hc
      obtain ⟨rfl, rfl⟩ := hc
      intro o ho φ h nx w ρ args v h' hr s _ ha
      obtain ⟨dst, op, type, pos, after, guard⟩ := o
      simp only at ho; subst ho
      simp only [VOp.run] at hr
      unfold rIsl at hr
      split at hr
      · next b o' len es' cap k' j =>
        split at hr
        · next hj =>
          cases hr
          obtain ⟨h1, h2⟩ := arg2 ha
          obtain ⟨a, c, e2, hlc, _, hloc⟩ := h1
          have e3 : ρ i = .int k' j := h2
          have hc0 : c ≠ 0 := by omega
          obtain ⟨l, e1, rfl, _⟩ := hloc.resolve_left hc0
          refine pure_ok (v' := .pointer (some ⟨l.blk, o' + j.toNat * k + l.off, none⟩)) s ?_ ⟨l, e1, rfl⟩
          simp [execOp, Instr.indexAt, run_underlying hu, e2, e3, asIntOf, hj.2.1, hj.2.2, run_sizeOf hk, addr_add, show o' + l.off + j.toNat * k = o' + j.toNat * k + l.off from by omega]
        · cases hr
      · cases hr
  · cases hc
theorem ok_index (P : Program) (t : TypeId) (x i : Operand) : Ok P (.index t x i) := by
  intro vop xs hc
  simp only [cOp] at hc
  split at hc
  · next n e hu =>
    split at hc
    · next k sh hk hsh =>
      cases hc
      intro o ho φ h nx w ρ args v h' hr s _ ha
      obtain ⟨dst, op, type, pos, after, guard⟩ := o
      simp only at ho; subst ho
      simp only [VOp.run] at hr
      unfold rIdx at hr
      split at hr
      · next cs k' j =>
        split at hr
        · next hj =>
          unfold noHeap at hr
          split at hr
          · next c hp =>
            cases hr
            obtain ⟨h1, h2⟩ := arg2 ha
            obtain ⟨vs, e1, hv⟩ := h1
            have e3 : ρ i = .int k' j := h2
            obtain ⟨v', e4, e5⟩ := partCV_ok (P := P) (w := w) hsh hv hp
            exact pure_ok (v' := v') s (by simp [execOp, Instr.index, run_underlying hu, e1, e3, asIntOf, hj.1, hj.2, run_sizeOf hk, e4]) e5
          · cases hr
        · cases hr
      · cases hr
    · cases hc
  · next hu =>
    cases hc
    intro o ho φ h nx w ρ args v h' hr s _ ha
    obtain ⟨dst, op, type, pos, after, guard⟩ := o
    simp only at ho; subst ho
    simp only [VOp.run] at hr
    unfold rSidx at hr
    split at hr
    · next sl k' j =>
      split at hr
      · next hj =>
        split at hr
        · next n hn =>
          cases hr
          obtain ⟨h1, h2⟩ := arg2 ha
          obtain ⟨hlt, e1⟩ := h1
          have e3 : ρ i = .int k' j := h2
          have hlen : j.toNat < sl.length := (List.getElem?_eq_some_iff.1 hn).1
          have hmem : n ∈ sl := List.mem_of_getElem? hn
          have hget : (⟨(sl.map UInt8.ofNat).toArray⟩ : ByteArray)[j.toNat]? = some (UInt8.ofNat n) := by
            have hsz : j.toNat < (⟨(sl.map UInt8.ofNat).toArray⟩ : ByteArray).size := by rw [show (⟨(sl.map UInt8.ofNat).toArray⟩ : ByteArray).size = sl.length from bs_size sl]; exact hlen
            rw [getElem?_pos (⟨(sl.map UInt8.ofNat).toArray⟩ : ByteArray) j.toNat hsz]
            congr 1
            show (sl.map UInt8.ofNat).toArray[j.toNat] = _
            simp [(List.getElem?_eq_some_iff.1 hn).2]
          refine pure_ok (v' := .int .u8 (n : Nat)) s ?_ rfl
          simp [execOp, Instr.index, run_underlying hu, e1, e3, asIntOf, hj, hget]
          have := hlt n hmem
          omega
        · cases hr
      · cases hr
    · cases hr
  · cases hc
theorem ok_extract (P : Program) (t : Operand) (i : Nat) : Ok P (.extract t i) := by
  intro vop xs hc
  simp only [cOp, Option.some.injEq, Prod.mk.injEq, VAct.op.injEq] at hc
  obtain ⟨rfl, rfl⟩ := hc
  intro o ho φ h nx w ρ args v h' hr s _ ha
  obtain ⟨dst, op, type, pos, after, guard⟩ := o
  simp only at ho; subst ho
  simp only [VOp.run] at hr
  unfold rExtract at hr
  split at hr
  · next xs =>
    unfold noHeap at hr
    split at hr
    · next c hp =>
      cases hr
      obtain ⟨vs, e1, hv⟩ := arg1 ha
      obtain ⟨v', e2, e3⟩ := forall₂_get hv i hp
      exact pure_ok (v' := v') s (by simp [execOp, Instr.extract, e1, e2]) e3
    · cases hr
  · cases hr
end Go.Vm
end
section
namespace Go.Vm
open Key (kn)
def OptInt : Option Value → Option Int → Prop
  | none, none => True
  | some v, some n => ∃ k, v = .int k n
  | _, _ => False
theorem popInt_ok {φ : Emb} {ρ : Operand → Value} (o : Option Operand) {xs ys : List AV} {a : Option Int} {rest : List Value} (h : popInt o.isSome xs = some (a, ys))
    (ha : All₂ (ARel φ) xs (o.toList.map ρ ++ rest)) : OptInt (o.map ρ) a ∧ All₂ (ARel φ) ys rest := by
  cases o with
  | none => simp only [Option.isSome, popInt, Option.some.injEq, Prod.mk.injEq] at h; obtain ⟨rfl, rfl⟩ := h; exact ⟨trivial, ha⟩
  | some x =>
    simp only [Option.isSome] at h
    unfold popInt at h
    split at h
    · next e => cases e
    · next e => cases h; cases ha with
      | cons h t => exact ⟨⟨_, h⟩, t⟩
    · cases h
theorem optArgs_ok {φ : Emb} {ρ : Operand → Value} (lo hi mx : Option Operand) {xs : List AV} {bs : Option Int × Option Int × Option Int} (h : optArgs lo.isSome hi.isSome mx.isSome xs = some bs)
    (ha : All₂ (ARel φ) xs ((lo.toList ++ (hi.toList ++ mx.toList)).map ρ)) : OptInt (lo.map ρ) bs.1 ∧ OptInt (hi.map ρ) bs.2.1 ∧ OptInt (mx.map ρ) bs.2.2 := by
  simp only [List.map_append] at ha
  unfold optArgs at h
  split at h
  · next a xs1 e1 =>
    obtain ⟨h1, ha⟩ := popInt_ok lo e1 ha
    split at h
    · next b xs2 e2 =>
      obtain ⟨h2, ha⟩ := popInt_ok hi e2 ha
      split at h
      · next c e3 =>
        cases h
        obtain ⟨h3, _⟩ := popInt_ok (rest := []) mx e3 (by simpa using ha)
        exact ⟨h1, h2, h3⟩
      · cases h
    · cases h
  · cases h
section
variable {P : Program} {w : World}
theorem sliceBound_ok {k : IntKind} {i : Int} {y : Nat} (code : BoundsCode) (h : 0 ≤ i ∧ i ≤ (y : Int)) : (Instr.sliceBound (.int k i) y code).run P w = .ok i.toNat w := by
  simp [Instr.sliceBound, asIntOf, h.1, h.2]
theorem bnd_ok {o : Option Value} {x : Option Int} {top d n y : Nat} (h : OptInt o x) (e : bnd x top d = some n) (hy : top ≤ y) :
    (o = none ∧ n = d) ∨ (∃ v, o = some v ∧ (∀ code, (Instr.sliceBound v y code).run P w = .ok n w) ∧ n ≤ top) := by
  unfold bnd at e
  split at e
  · cases e
    cases o with
    | none => exact .inl ⟨rfl, rfl⟩
    | some v => exact h.elim
  · next v =>
    split at e
    · next hv =>
      cases e
      cases o with
      | none => exact h.elim
      | some u => obtain ⟨k, rfl⟩ := h; exact .inr ⟨_, rfl, fun code => sliceBound_ok code ⟨hv.1, by omega⟩, by omega⟩
    · cases e
theorem bounds_ok {len C : Nat} {cap : Option Nat} {lo hi mx : Option Value} {bs : Option Int × Option Int × Option Int} {l n : Nat} {c' : Option Nat} (isSlice : Bool) (hcap : ∀ k, cap = some k → C = k) (hlen : len ≤ C)
    (h1 : OptInt lo bs.1) (h2 : OptInt hi bs.2.1) (h3 : OptInt mx bs.2.2) (hb : bounds len cap bs = some (l, n, c')) (h4 : mx.isSome = true → hi.isSome = true) :
    ∃ h m, (Instr.sliceBounds isSlice len C lo hi mx).run P w = .ok (l, h, m) w ∧ h - l = n ∧ l ≤ h ∧ h ≤ m ∧ m ≤ C ∧ (∀ k, c' = some k → m - l = k) ∧ (c' = none → cap = none ∧ m = C) := by
  unfold bounds at hb
  split at hb
  · cases hb
  · next m hm =>
    split at hb
    · cases hb
    · next h hh =>
      split at hb
      · cases hb
      · next l' hl =>
        cases hb
        have htop : cap.getD len ≤ C := by
          cases cap with
          | none => exact hlen
          | some k => rw [hcap k rfl]; exact Nat.le_refl _
        rcases bnd_ok (P := P) (w := w) (y := C) h3 hm htop with ⟨rfl, rfl⟩ | ⟨v, rfl, hv, hmt⟩
        · have hnone : bs.2.2 = none := by
            cases hx : bs.2.2 with
            | none => rfl
            | some q => rw [hx] at h3; exact h3.elim
          have hhx := bnd_ok (P := P) (w := w) (y := C) h2 hh htop
          have hle : h ≤ C := by
            rcases hhx with ⟨_, rfl⟩ | ⟨_, _, _, h5⟩
            · exact hlen
            · omega
          have hlx := bnd_ok (P := P) (w := w) (y := h) h1 hl (Nat.le_refl _)
          have hll : l ≤ h := by
            rcases hlx with ⟨_, rfl⟩ | ⟨_, _, _, h5⟩
            · exact Nat.zero_le _
            · exact h5
          refine ⟨h, C, ?_, rfl, hll, hle, Nat.le_refl _, fun k hk => ?_, fun hk => ?_⟩
          · rcases hhx with ⟨rfl, rfl⟩ | ⟨v2, rfl, hv2, _⟩ <;> rcases hlx with ⟨rfl, rfl⟩ | ⟨v3, rfl, hv3, _⟩ <;> simp [Instr.sliceBounds, *]
          · rw [hnone] at hk
            simp only [Option.isSome_none, Bool.false_or] at hk
            split at hk
            · next hs =>
              cases hk
              obtain ⟨q, rfl⟩ := Option.isSome_iff_exists.1 hs
              rw [hcap q rfl]; rfl
            · cases hk
          · rw [hnone] at hk
            simp only [Option.isSome_none, Bool.false_or] at hk
            split at hk
            · cases hk
            · next hs => exact ⟨by cases cap <;> simp_all, rfl⟩
        · have hhi := h4 rfl
          have hsome : bs.2.2.isSome = true := by
            cases hx : bs.2.2 with
            | none => rw [hx] at h3; exact h3.elim
            | some q => rfl
          rcases bnd_ok (P := P) (w := w) (y := m) h2 hh (Nat.le_refl _) with ⟨rfl, _⟩ | ⟨v2, rfl, hv2, hle⟩
          · cases hhi
          · have hlx := bnd_ok (P := P) (w := w) (y := h) h1 hl (Nat.le_refl _)
            have hll : l ≤ h := by
              rcases hlx with ⟨_, rfl⟩ | ⟨_, _, _, h5⟩
              · exact Nat.zero_le _
              · exact h5
            refine ⟨h, m, ?_, rfl, hll, hle, by omega, fun k hk => ?_, fun hk => ?_⟩
            · rcases hlx with ⟨rfl, rfl⟩ | ⟨v3, rfl, hv3, _⟩ <;> simp [Instr.sliceBounds, *]
            · simp [hsome] at hk; exact hk
            · simp [hsome] at hk
end
theorem sliceSV_ok {φ : Emb} {es : Nat} {x r : SV} {bs : Option Int × Option Int × Option Int} (hr : sliceSV es x bs = some r) {P : Program} {w : World} {lo hi mx : Option Value} {a : Option Addr} {len C : Nat}
    (hx : SRel φ x (.slice a len C)) (h1 : OptInt lo bs.1) (h2 : OptInt hi bs.2.1) (h3 : OptInt mx bs.2.2) (h4 : mx.isSome = true → hi.isSome = true) (isSlice : Bool) :
    ∃ l h m, (Instr.sliceBounds isSlice len C lo hi mx).run P w = .ok (l, h, m) w ∧ SRel φ r (.slice (if m = l then a else a.map (·.add (l * es))) (h - l) (m - l)) := by
  unfold sliceSV at hr
  split at hr
  · split at hr
    · next v hb =>
      cases hr
      obtain ⟨l, n, c'⟩ := v
      cases hx
      obtain ⟨h, m, e1, e2, e3, e4, e5, _, _⟩ := bounds_ok (P := P) (w := w) (C := 0) isSlice (by simp) (Nat.le_refl _) h1 h2 h3 hb h4
      refine ⟨l, h, m, e1, ?_⟩
      have : m = l := by omega
      subst this
      simp only [if_true]
      show Value.slice none (h - m) (m - m) = .slice none 0 0
      rw [show h - m = 0 from by omega, show m - m = 0 from by omega]
    · cases hr
  · next b o len' es' cap =>
    split at hr
    · next hes =>
      subst hes
      split at hr
      · next l n c hb =>
        cases hr
        obtain ⟨a', c0, e0, hlc, hcap, hloc⟩ := hx
        cases e0
        obtain ⟨h, m, e1, e2, e3, e4, e5, e6, e7⟩ := bounds_ok (P := P) (w := w) (cap := cap) isSlice hcap hlc h1 h2 h3 hb h4
        refine ⟨l, h, m, e1, if m = l then a' else a'.add (l * es), m - l, ?_, by omega, e6, ?_⟩
        · rw [e2]; split <;> simp
        · by_cases hml : m = l
          · exact .inl (by omega)
          · obtain ⟨lc, f1, f2, f3⟩ := hloc.resolve_left (by omega)
            refine .inr ⟨lc, f1, ?_, fun hc => ?_⟩
            · simp only [hml, if_false]
              rw [f2, addr_add]
              rw [show o + lc.off + l * es = o + l * es + lc.off from by omega]
            · obtain ⟨g1, g2⟩ := e7 hc
              have := f3 g1
              subst g2
              rw [← this, Nat.sub_mul]
              have : l * es ≤ m * es := Nat.mul_le_mul_right _ (by omega)
              omega
      · cases hr
    · cases hr
  · cases hr
theorem bs_extract (sl : List Nat) (l h : Nat) : (bs sl).extract l h = bs ((sl.drop l).take (h - l)) := by
  apply ByteArray.ext
  rw [ByteArray.data_extract]
  apply Array.ext'
  simp [bs, List.map_take, List.map_drop]
theorem okAt_slice {P : Program} (t : TypeId) (x : Operand) (lo hi mx : Option Operand) (k : SlK) (hm : (mx.isSome && hi.isNone) = false)
    (hk : match k with | .str => P.underlying t = some .string | .slice es => ∃ e, P.underlying t = some (.slice e) ∧ sizeT P e = some es | .arr n es => ∃ e, P.underlying t = some (.array n e) ∧ sizeT P e = some es) :
    OkAt P (.slice t x lo hi mx) (.slice k lo.isSome hi.isSome mx.isSome) (x :: (lo.toList ++ (hi.toList ++ mx.toList))) := by
  intro o ho φ h nx w ρ args v h' hr s _ ha
  obtain ⟨dst, op, type, pos, after, guard⟩ := o
  simp only at ho; subst ho
  simp only [VOp.run] at hr
  unfold rSlice at hr
  have h4 : (mx.map ρ).isSome = true → (hi.map ρ).isSome = true := by
    intro h5
    simp only [Option.isSome_map] at h5 ⊢
    cases hi with
    | none => simp [h5] at hm
    | some _ => rfl
  split at hr
  · next x0 xs0 =>
    split at hr
    · next bs hbs =>
      cases ha with
      | cons hx ha =>
      obtain ⟨h1, h2, h3⟩ := optArgs_ok lo hi mx hbs ha
      split at hr
      · next sl =>
        split at hr
        · cases hr
        · next hmx =>
          split at hr
          · next l n c hb =>
            cases hr
            obtain ⟨hlt, e0⟩ := hx
            have e0 : ρ x = .string (Go.Vm.bs sl) := e0
            have hmn : mx = none := by cases mx <;> simp_all
            subst hmn
            obtain ⟨h, m, e1, e2, e3, e4, e5, _, _⟩ := bounds_ok (P := P) (w := w) (C := sl.length) false (by intro k hk; cases hk; rfl) (Nat.le_refl _) h1 h2 h3 hb h4
            refine pure_ok (v' := .string ((Go.Vm.bs sl).extract l h)) s ?_ ⟨fun q hq => hlt q ?_, ?_⟩
            · simp only [Option.map_none] at e1
              simp [execOp, Instr.sliceAt, Instr.slice, run_underlying hk, e0, bs_size, e1]
            · exact List.mem_of_mem_drop (List.mem_of_mem_take hq)
            · rw [bs_extract, e2]; rfl
          · cases hr
      · next es sv =>
        unfold noHeapS at hr
        split at hr
        · next r hs =>
          cases hr
          obtain ⟨e, hu, hes⟩ := hk
          have hx : SRel φ sv (ρ x) := hx
          obtain ⟨a, len, C, e0⟩ : ∃ a len C, ρ x = .slice a len C := by
            unfold sliceSV at hs
            split at hs
            · exact ⟨_, _, _, hx⟩
            · obtain ⟨a, c, e, _⟩ := hx; exact ⟨_, _, _, e⟩
            · cases hs
          rw [e0] at hx
          obtain ⟨l, h, m, e1, e2⟩ := sliceSV_ok (P := P) (w := w) hs hx h1 h2 h3 h4 true
          exact pure_ok (v' := .slice (if m = l then a else a.map (·.add (l * es))) (h - l) (m - l)) s (by simp [execOp, Instr.sliceAt, Instr.slice, run_underlying hu, e0, e1, run_sizeOf hes]) e2
        · cases hr
      · next n es b o' =>
        unfold noHeapS at hr
        split at hr
        · next r hs =>
          cases hr
          obtain ⟨e, hu, hes⟩ := hk
          obtain ⟨lc, f1, f2⟩ := hx
          have hx : SRel φ (.slice b o' n es (some n)) (.slice (some ⟨lc.blk, o' + lc.off, none⟩) n n) := ⟨_, n, rfl, Nat.le_refl _, by simp, .inr ⟨lc, f1, rfl, by simp⟩⟩
          obtain ⟨l, h, m, e1, e2⟩ := sliceSV_ok (P := P) (w := w) hs hx h1 h2 h3 h4 false
          refine pure_ok (v' := .slice (if m = l then some ⟨lc.blk, o' + lc.off, none⟩ else (some ⟨lc.blk, o' + lc.off, none⟩ : Option Addr).map (·.add (l * es))) (h - l) (m - l)) s ?_ e2
          simp only [execOp, Instr.sliceAt, Sem.run_bind, run_underlying hu, f2, Instr.sureAddr, e1, run_sizeOf hes, Result.andThen_ok, Sem.run_pure]
          by_cases hml : m = l <;> simp [hml]
        · cases hr
      · cases hr
    · cases hr
  · cases hr
theorem ok_slice (P : Program) (t : TypeId) (x : Operand) (lo hi mx : Option Operand) : Ok P (.slice t x lo hi mx) := by
  intro vop xs hc
  simp only [cOp] at hc
  split at hc
  · next hu =>
    unfold optFlags at hc
    split at hc
    · cases hc
    · next hm => cases hc; exact okAt_slice t x lo hi mx .str (Bool.eq_false_iff.2 hm) hu
  · next e hu =>
    split at hc
    · next n hn =>
      unfold optFlags at hc
      split at hc
      · cases hc
      · next hm => cases hc; exact okAt_slice t x lo hi mx (.slice n) (Bool.eq_false_iff.2 hm) ⟨e, hu, hn⟩
    · cases hc
  · next n e hu =>
    split at hc
    · next k hn =>
      unfold optFlags at hc
      split at hc
      · cases hc
      · next hm => cases hc; exact okAt_slice t x lo hi mx (.arr n k) (Bool.eq_false_iff.2 hm) ⟨e, hu, hn⟩
    · cases hc
  · cases hc
theorem ptrs_ok {φ : Emb} : ∀ {xs : List AV} {l : List (Key × Nat)} {vs : List Value}, ptrs xs = some l → All₂ (ARel φ) xs vs → All₂ (PRel φ) l vs
  | [], l, vs, h, ha => by cases ha; simp [ptrs] at h; subst h; exact .nil
  | x :: xs, l, vs, h, ha => by
    cases ha with
    | cons hx ha =>
    unfold ptrs at h
    split at h
    · next e => cases e
    · next b o l' e =>
      cases e
      split at h
      · next r hr => cases h; exact .cons hx (ptrs_ok hr ha)
      · cases h
    · cases h
theorem ok_makeFunc (P : Program) (fn : Fn) (first cap : Array Operand) : Ok P (.makeFunc fn first cap) := by
  intro vop xs hc
  simp only [cOp] at hc
  split at hc
  · next f =>
    cases hc
    intro o ho φ h nx w ρ args v h' hr s _ ha
    obtain ⟨dst, op, type, pos, after, guard⟩ := o
    simp only at ho; subst ho
    simp only [VOp.run] at hr
    unfold rMkfunc at hr
    split at hr
    · next l hl =>
      cases hr
      have h1 := ptrs_ok hl ha
      simp only [List.map_append] at h1
      have ht := forall₂_take first.size h1
      have hd := forall₂_drop first.size h1
      rw [List.take_left' (by simp)] at ht
      rw [List.drop_left' (by simp)] at hd
      refine pure_ok (v' := .func (.func f) (first.map ρ) (cap.map ρ)) s (by simp [execOp, Instr.makeFunc]) ⟨_, _, ?_, ht, hd⟩
      congr 1 <;> (apply Array.ext'; simp)
    · cases hr
  · cases hc
end Go.Vm
end
section
namespace Go.Vm
open Key (kn)
theorem map_ofNat_toNat (l : List UInt8) : (l.map UInt8.toNat).map UInt8.ofNat = l := by
  induction l with
  | nil => rfl
  | cons x l ih => simp only [List.map_cons, ih, UInt8.ofNat_toNat]
theorem cSV_ok {φ : Emb} {v : Value} {x : SV} (h : cSV v = some x) : SRel φ x v := by
  unfold cSV at h
  split at h
  · cases h; rfl
  · cases h; rfl
  · next s =>
    cases h
    refine ⟨fun n hn => ?_, ?_⟩
    · obtain ⟨b, _, rfl⟩ := List.mem_map.1 hn
      exact b.toNat_lt
    · rw [map_ofNat_toNat]
  · cases h; rfl
  · cases h; rfl
  · cases h; rfl
  · cases h; rfl
  · cases h
theorem cSVs_ok {φ : Emb} : ∀ {vs : List Value} {xs : List SV}, cSVs vs = some xs → All₂ (SRel φ) xs vs
  | [], xs, h => by simp [cSVs] at h; subst h; exact .nil
  | v :: vs, xs, h => by
    unfold cSVs at h
    split at h
    · next x hx =>
      split at h
      · next xs' hxs => cases h; exact .cons (cSV_ok hx) (cSVs_ok hxs)
      · cases h
    · cases h
theorem cCV_ok {φ : Emb} {v : Value} {x : CV} (h : cCV v = some x) : CRel φ x v := by
  unfold cCV at h
  split at h
  · next cs =>
    split at h
    · next l hl => cases h; exact ⟨cs.toList, by simp, cSVs_ok hl⟩
    · cases h
  · split at h
    · next y hy => cases h; exact cSV_ok hy
    · cases h
section
variable {P : Program} {w : World} {φ : Emb}
theorem zeroT_ok {t : TypeId} {c : CV} (h : zeroT P t = some c) : ∃ i z, P.info? t = some i ∧ i.zero = some z ∧ CRel φ c z := by
  unfold zeroT at h
  split at h
  · next i hi =>
    split at h
    · next z hz => exact ⟨i, z, hi, hz, cCV_ok h⟩
    · cases h
  · cases h
theorem run_zero {t : TypeId} {i : TypeInfo} {z : Value} (hi : P.info? t = some i) (hz : i.zero = some z) : (zeroValue t).run P w = .ok z w := by
  simp [zeroValue, typeInfo, hi, hz]
theorem zerosT_ok {t : TypeId} {l : List SV} (h : zerosT P t = some l) : ∃ i z, P.info? t = some i ∧ i.zero = some z ∧ All₂ (SRel φ) l z.cells.toList := by
  unfold zerosT at h
  cases hz : zeroT P t with
  | none => simp [hz] at h
  | some c =>
    simp [hz] at h
    subst h
    obtain ⟨i, z, h1, h2, h3⟩ := zeroT_ok (φ := φ) hz
    exact ⟨i, z, h1, h2, h3.cells⟩
theorem alloc_ok {h : Heap} {nx : Nat} {w' : World} (s : Sim φ h.get nx w) (hb : φ h.next = none) (x : Blk) (l : Loc) (hl : l.blk = w.heap.size) {o : Obj} (hw : w'.heap = w.heap.push o)
    (hr : BRel (φ.set h.next l) l x.own x.body o) (ho : w'.os = w.os ∧ w'.output = w.output := by exact ⟨rfl, rfl⟩) :
    (∀ nx', nx ≤ nx' → (h.newB x).next.toNat ≤ nx' → Sim (φ.set h.next l) (h.newB x).get nx' w') ∧ Ext φ h.get h.next.toNat w (φ.set h.next l) (h.newB x).get (h.newB x).next.toNat w' := by
  have hn : (h.newB x).next.toNat = h.next.toNat + 1 := Key.toNat_succ _
  rw [get_newB, hn]
  exact ⟨fun nx' h1 h2 => s.push hb nx' h1 (by omega) x l hl hw hr, Ext.push hb x l hl hw ho⟩
theorem allocC_ok {h : Heap} {nx : Nat} {w' : World} (s : Sim φ h.get nx w) (hb : φ h.next = none) {ls : List SV} {vs : List Value} (hv : All₂ (SRel φ) ls vs) (rest : List Value) (t : TypeId) (fr : Nat × Nat) (own : Bool) (hf : own = true → fr = (0, 0))
    (hw : w'.heap = w.heap.push (.cells (vs ++ rest).toArray t fr)) (ho : w'.os = w.os ∧ w'.output = w.output := by exact ⟨rfl, rfl⟩) :
    (∀ nx', nx ≤ nx' → (h.newB ⟨Body.ofList ls, own, []⟩).next.toNat ≤ nx' → Sim (φ.set h.next ⟨w.heap.size, 0, (vs ++ rest).length⟩) (h.newB ⟨Body.ofList ls, own, []⟩).get nx' w') ∧
    Ext φ h.get h.next.toNat w (φ.set h.next ⟨w.heap.size, 0, (vs ++ rest).length⟩) (h.newB ⟨Body.ofList ls, own, []⟩).get (h.newB ⟨Body.ofList ls, own, []⟩).next.toNat w' := by
  refine alloc_ok s hb _ _ rfl hw (BRel.ofList (forall₂_mono hv fun _ _ => SRel.mono (Emb.le_set _ hb)) rest w.heap.size t fr own hf) ho
end
theorem ok_alloc (P : Program) (e : TypeId) : Ok P (.alloc e) := by
  intro vop xs hc
  simp only [cOp] at hc
  cases hz : zerosT P e with
  | none => simp [hz] at hc
  | some z =>
    simp only [hz, Option.map_some, Option.some.injEq, Prod.mk.injEq, VAct.op.injEq] at hc
    obtain ⟨rfl, rfl⟩ := hc
    intro o ho φ h nx w ρ args v h' hr s hb ha
    obtain ⟨dst, op, type, pos, after, guard⟩ := o
    simp only at ho; subst ho
    simp only [VOp.run] at hr
    unfold rNewz at hr
    split at hr
    · cases hr
      obtain ⟨i, zv, h1, h2, h3⟩ := zerosT_ok (φ := φ) hz
      obtain ⟨g1, g2⟩ := allocC_ok (w' := w.alloc (.cells zv.cells e)) s hb h3 [] e (0, 0) true (fun _ => rfl) (by rw [List.append_nil]; rfl)
      exact ⟨.pointer (some ⟨w.heap.size, 0, none⟩), w.alloc (.cells zv.cells e), .inl (by simp [execOp, Instr.alloc, run_zero h1 h2, newVar, newRow]), _, g1, g2, ⟨_, Emb.set_same _ _ _, rfl⟩⟩
    · cases hr
theorem ok_box (P : Program) (e : TypeId) (x : Operand) : Ok P (.box e x) := by
  intro vop xs hc
  simp only [cOp] at hc
  cases hz : sizeT P e with
  | none => simp [hz] at hc
  | some z =>
    simp only [hz, Option.map_some, Option.some.injEq, Prod.mk.injEq, VAct.op.injEq] at hc
    obtain ⟨rfl, rfl⟩ := hc
    intro o ho φ h nx w ρ args v h' hr s hb ha
    obtain ⟨dst, op, type, pos, after, guard⟩ := o
    simp only at ho; subst ho
    simp only [VOp.run] at hr
    unfold rBox at hr
    split at hr
    · next c =>
      split at hr
      · cases hr
        have h3 := CRel.cells (arg1 ha)
        obtain ⟨g1, g2⟩ := allocC_ok (w' := w.alloc (.cells (ρ x).cells e)) s hb h3 [] e (0, 0) true (fun _ => rfl) (by rw [List.append_nil]; rfl)
        exact ⟨.pointer (some ⟨w.heap.size, 0, none⟩), w.alloc (.cells (ρ x).cells e), .inl (by simp [execOp, Instr.box, newVar, newRow]), _, g1, g2, ⟨_, Emb.set_same _ _ _, rfl⟩⟩
      · cases hr
    · cases hr
theorem ok_load (P : Program) (t : TypeId) (x : Operand) : Ok P (.load t x) := by
  intro vop xs hc
  simp only [cOp] at hc
  split at hc
  · next hsh =>
    cases hc
    intro o ho φ h nx w ρ args v h' hr s _ ha
    obtain ⟨dst, op, type, pos, after, guard⟩ := o
    simp only at ho; subst ho
    simp only [VOp.run] at hr
    unfold rLoad1 at hr
    split at hr
    · next b o' =>
      split at hr
      · next y hread =>
        cases hr
        obtain ⟨l, e1, e2⟩ := arg1 ha
        obtain ⟨_, vs, hv, hcell⟩ := s.read e1 hread
        obtain ⟨v, rfl, hv1⟩ : ∃ v, vs = [v] ∧ SRel φ y v := by
          cases hv with
          | cons h t => cases t; exact ⟨_, rfl, h⟩
        have hc0 := hcell 0 v rfl
        rw [addr_add] at hc0
        exact pure_ok (v' := v) s (by simp [execOp, Instr.loadAt, e2, Instr.sureAddr, loadVar, shapeOf_none hsh, show w.cell? ⟨l.blk, o' + l.off, none⟩ = some v from hc0]) hv1
      · cases hr
    · cases hr
  · next n hsh =>
    cases hc
    intro o ho φ h nx w ρ args v h' hr s _ ha
    obtain ⟨dst, op, type, pos, after, guard⟩ := o
    simp only at ho; subst ho
    simp only [VOp.run] at hr
    unfold rLoadn at hr
    split at hr
    · next b o' =>
      split at hr
      · next ls hread =>
        cases hr
        obtain ⟨l, e1, e2⟩ := arg1 ha
        obtain ⟨hl, vs, hv, hcell⟩ := s.read e1 hread
        obtain ⟨h1, h2⟩ := shapeOf_some (w := w) hsh
        have hvl : vs.length = n := by rw [← forall₂_len hv, hl]
        have hload : (loadCells ⟨l.blk, o' + l.off, none⟩ n).run P w = .ok vs.toArray w := by rw [← hvl]; exact run_loadCells_list w _ vs hcell
        exact pure_ok (v' := .agg vs.toArray) s (by simp [execOp, Instr.loadAt, e2, Instr.sureAddr, loadVar, h1, run_sizeOf h2, hload]) ⟨vs, rfl, hv⟩
      · cases hr
    · cases hr
  · cases hc
theorem ok_store (P : Program) (t : TypeId) (x y : Operand) : Ok P (.store t x y) := by
  intro vop xs hc
  simp only [cOp] at hc
  cases hz : sizeT P t with
  | none => simp [hz] at hc
  | some n =>
    simp only [hz, Option.map_some, Option.some.injEq, Prod.mk.injEq, VAct.op.injEq] at hc
    obtain ⟨rfl, rfl⟩ := hc
    intro o ho φ h nx w ρ args v h' hr s _ ha
    obtain ⟨dst, op, type, pos, after, guard⟩ := o
    simp only at ho; subst ho
    simp only [VOp.run] at hr
    unfold rStore at hr
    split at hr
    · next b o' c =>
      split at hr
      · next hlen =>
        split at hr
        · next h1 hw =>
          cases hr
          obtain ⟨a1, a2⟩ := arg2 ha
          obtain ⟨l, e1, e2⟩ := a1
          have hv := CRel.cells a2
          obtain ⟨arr, ty, f1, f2, f3, f4, f5⟩ := s.write e1 hv hw
          refine ⟨undef, w.setRow l.blk (over arr (o' + l.off) (ρ y).cells.toList), .inr ⟨?_, rfl⟩, φ, fun nx' g1 _ => f4.up g1, ?_, ⟨[], rfl, .nil⟩⟩
          · have hst := run_storeCells_at P l.blk (o' + l.off) ty (ρ y).cells.toList 0 arr w f1 (by simpa using f2) (all_one hv)
            have hsz : (ρ y).cells.size = n := by rw [← hlen, forall₂_len hv]; simp
            simp only [execOp, Instr.storeAt, e2, Instr.sureAddr, Sem.run_bind, Sem.run_pure, Result.andThen_ok, storeVar, run_sizeOf hz, hsz, ne_eq, not_true_eq_false, if_false, Nat.add_zero] at hst ⊢
            rw [hst]; rfl
          · rw [f3]; exact f5 _
        · cases hr
      · cases hr
    · cases hr
theorem mkmap_ok {P : Program} {o : Oper} {φ : Emb} {h : Heap} {nx : Nat} {w : World} {ρ : Operand → Value} (s : Sim φ h.get nx w) (hb : φ h.next = none)
    (hd : (execOp ρ o).run P w = .ok (.value (.map (some w.heap.size))) (w.alloc (.map #[] 0))) :
    ∃ v' w', Done P ρ o w v' w' ∧ ∃ φ', (∀ nx', nx ≤ nx' → (h.new (.map [])).2.next.toNat ≤ nx' → Sim φ' (h.new (.map [])).2.get nx' w') ∧ Ext φ h.get h.next.toNat w φ' (h.new (.map [])).2.get (h.new (.map [])).2.next.toNat w' ∧ ARel φ' (.v (.s (.map h.next))) v' := by
  obtain ⟨g1, g2⟩ := alloc_ok (w' := w.alloc (.map #[] 0)) (o := .map #[] 0) s hb ⟨.map [], true, []⟩ ⟨w.heap.size, 0, 0⟩ rfl rfl ⟨#[], rfl, by simp, by simp⟩
  exact ⟨.map (some w.heap.size), w.alloc (.map #[] 0), .inl hd, _, g1, g2, ⟨_, Emb.set_same _ _ _, rfl⟩⟩
theorem ok_makeMap (P : Program) (t : TypeId) (r : Option Operand) : Ok P (.makeMap t r) := by
  intro vop xs hc
  cases r with
  | none =>
    simp only [cOp, Option.some.injEq, Prod.mk.injEq, VAct.op.injEq] at hc
    obtain ⟨rfl, rfl⟩ := hc
    intro o ho φ h nx w ρ args v h' hr s hb ha
    obtain ⟨dst, op, type, pos, after, guard⟩ := o
    simp only at ho; subst ho
    simp only [VOp.run] at hr
    unfold rMkmap at hr
    split at hr
    · cases hr; exact mkmap_ok s hb (by simp [execOp, Instr.makeMap])
    · cases ha
    · cases hr
  | some x =>
    simp only [cOp] at hc
    split at hc
    · next a b hu =>
      cases hc
      intro o ho φ h nx w ρ args v h' hr s hb ha
      obtain ⟨dst, op, type, pos, after, guard⟩ := o
      simp only at ho; subst ho
      simp only [VOp.run] at hr
      unfold rMkmap at hr
      split at hr
      · cases ha
      · next k n =>
        cases hr
        have e1 : ρ x = .int k n := arg1 ha
        exact mkmap_ok s hb (by simp [execOp, Instr.makeMap, run_underlying hu, e1, asInt, asIntOf])
      · cases hr
    · cases hc
theorem setFold (vs : List Value) : ∀ (n off : Nat) (arr : Array Value), off + n + vs.length ≤ arr.size →
    (vs.zipIdx n).foldl (fun (cs : Array Value) (p : Value × Nat) => cs.setIfInBounds (off + p.2) p.1) arr = over arr (off + n) vs := by
  induction vs with
  | nil => intro n off arr _; simp [over]
  | cons v vs ih =>
    intro n off arr h
    simp only [List.zipIdx_cons, List.foldl_cons]
    rw [ih (n + 1) off _ (by simp at h ⊢; omega)]
    apply Array.ext_getElem?
    intro i
    have h1 : off + n + (v :: vs).length ≤ arr.size := h
    have h2 : off + (n + 1) + vs.length ≤ (arr.setIfInBounds (off + n) v).size := by simp at h ⊢; omega
    by_cases hi : i = off + n
    · subst hi
      rw [over_out _ _ _ h2 _ (by omega)]
      have := over_in arr (off + n) (v :: vs) h1 0 (by simp)
      simp only [Nat.add_zero] at this
      rw [this]
      have : off + n < arr.size := by simp at h; omega
      simp [this]
    · by_cases hin : off + n < i ∧ i < off + n + (v :: vs).length
      · obtain ⟨j, rfl⟩ : ∃ j, i = off + (n + 1) + j := ⟨i - (off + (n + 1)), by omega⟩
        have hj : j < vs.length := by simp at hin; omega
        rw [over_in _ _ _ h2 j hj]
        have := over_in arr (off + n) (v :: vs) h1 (j + 1) (by simp; omega)
        rw [show off + n + (j + 1) = off + (n + 1) + j from by omega] at this
        rw [this]; rfl
      · rw [over_out _ _ _ h2 i (by simp at hin; omega), over_out _ _ _ h1 i (by omega)]
        rw [Array.getElem?_setIfInBounds_ne (by omega)]
theorem over_rel {φ : Emb} {cs ls : List SV} {arr : Array Value} {vs : List Value} (hc : All₂ (SRel φ) cs arr.toList) (hv : All₂ (SRel φ) ls vs) (o : Nat) :
    All₂ (SRel φ) (cs.take o ++ ls ++ cs.drop (o + ls.length)) (over arr o vs).toList := by
  have := forall₂_len hv
  simp only [over]
  rw [this]
  exact forall₂_append (forall₂_append (forall₂_take _ hc) hv) (forall₂_drop _ hc)
theorem layParts_ok {φ : Emb} {ρ : Operand → Value} {pl : Nat → Option (Nat × Nat)} : ∀ (parts : List (Nat × Operand)) (ps : List (Nat × Nat)) (xs : List AV) (cs cs' : List SV) (arr : Array Value),
    placesBy pl parts = some ps → layParts cs ps xs = some cs' → All₂ (SRel φ) cs arr.toList → All₂ (ARel φ) xs ((parts.map (·.2)).map ρ) →
    ∃ arr', Instr.fill pl arr (parts.map fun p => (p.1, ρ p.2)) = some arr' ∧ All₂ (SRel φ) cs' arr'.toList
  | [], ps, xs, cs, cs', arr, hp, hl, hc, ha => by
    simp [placesBy] at hp; subst hp
    cases ha
    simp [layParts] at hl; subst hl
    exact ⟨arr, rfl, hc⟩
  | (i, x) :: parts, ps, xs, cs, cs', arr, hp, hl, hc, ha => by
    unfold placesBy at hp
    split at hp
    · next p hpi =>
      split at hp
      · next r hr =>
        cases hp
        cases ha with
        | cons hx ha =>
        obtain ⟨off, n⟩ := p
        unfold layParts at hl
        split at hl
        · next e1 e2 => cases e1
        · next o' n' ps' c xs' e1 e2 =>
          cases e1; cases e2
          split at hl
          · next hcond =>
            have hv := CRel.cells hx
            have hlen := forall₂_len hv
            have hclen := forall₂_len hc
            have hsz : (ρ x).cells.size = n := by rw [← hcond.1, hlen]; simp
            have hfit : off + (ρ x).cells.toList.length ≤ arr.size := by simp at hclen ⊢; omega
            have hrel := over_rel hc hv off
            rw [hcond.1] at hrel
            obtain ⟨arr', f1, f2⟩ := layParts_ok parts _ _ _ _ _ hr hl hrel ha
            refine ⟨arr', ?_, f2⟩
            simp only [List.map_cons, Instr.fill, hpi]
            have hcnd : ((ρ x).cells.size != n || decide (off + (ρ x).cells.size > arr.size)) = false := by simp at hfit ⊢; omega
            simp only [ne_eq, hsz] at hcnd ⊢
            rw [← Array.foldl_toList, Array.toList_zipIdx]
            have hf := setFold (ρ x).cells.toList 0 off arr (by simpa using hfit)
            simp only [Nat.add_zero] at hf
            rw [hf, f1]
            simp at hfit
            simp; omega
          · cases hl
        · cases hl
      · cases hp
    · cases hp
end Go.Vm
end
section
namespace Go.Vm
open Key (kn)
theorem ok_build (P : Program) (t : TypeId) (parts : Array (Nat × Operand)) : Ok P (.build t parts) := by
  intro vop xs hc
  simp only [cOp] at hc
  have key : ∀ (z : List SV) (pl : Nat → Option (Nat × Nat)) (ps : List (Nat × Nat)), zerosT P t = some z → placesBy pl parts.toList = some ps →
      (∀ (ρ : Operand → Value) (arr : Array Value) (it : TypeInfo) (zv : Value), P.info? t = some it → it.zero = some zv → Instr.fill pl zv.cells (parts.toList.map fun p => (p.1, ρ p.2)) = some arr → P.built t (parts.toList.map fun p => (p.1, ρ p.2)) = some arr) →
      OkAt P (.build t parts) (.build z ps) (parts.toList.map (·.2)) := by
    intro z pl ps hz hps hbuilt
    intro o ho φ h nx w ρ args v h' hr s _ ha
    obtain ⟨dst, op, type, pos, after, guard⟩ := o
    simp only at ho; subst ho
    simp only [VOp.run] at hr
    unfold rBuild at hr
    split at hr
    · next cs hl =>
      cases hr
      obtain ⟨it, zv, h1, h2, h3⟩ := zerosT_ok (φ := φ) hz
      obtain ⟨arr, e1, e2⟩ := layParts_ok parts.toList ps args z cs zv.cells hps hl h3 ha
      have e3 := hbuilt ρ arr it zv h1 h2 e1
      refine pure_ok (v' := .agg arr) s ?_ ⟨arr.toList, by simp, e2⟩
      have e4 : (Instr.build t (parts.map fun p => (p.1, ρ p.2))).run P w = .ok (.agg arr) w := run_build w t _ arr (by simpa using e3)
      simp [execOp, e4]
    · cases hr
  split at hc
  · next z fs hz hu =>
    split at hc
    · next pls hpls =>
      cases hps : placesBy (fun i => pls[i]?) parts.toList with
      | none => simp [hps] at hc
      | some ps =>
        simp only [hps, Option.map_some, Option.some.injEq, Prod.mk.injEq, VAct.op.injEq] at hc
        obtain ⟨rfl, rfl⟩ := hc
        refine key z _ ps hz hps fun ρ arr it zv h1 h2 h3 => ?_
        simp only [Program.built, h1, hu, h2, hpls]
        simpa using h3
    · cases hc
  · next z n e hz hu =>
    split at hc
    · next k hk =>
      cases hps : placesBy (fun i => some (i * k, k)) parts.toList with
      | none => simp [hps] at hc
      | some ps =>
        simp only [hps, Option.map_some, Option.some.injEq, Prod.mk.injEq, VAct.op.injEq] at hc
        obtain ⟨rfl, rfl⟩ := hc
        refine key z _ ps hz hps fun ρ arr it zv h1 h2 h3 => ?_
        obtain ⟨ie, hie, rfl⟩ := sizeT_some hk
        simp only [Program.built, h1, hu, h2, hie]
        exact h3
    · cases hc
  · cases hc
theorem replZero_len (z : List SV) : ∀ n, (replZero z n).length = n * z.length
  | 0 => by simp [replZero]
  | n + 1 => by simp [replZero, replZero_len z n, Nat.add_mul, Nat.add_comm]
theorem replZero_get (z : List SV) (hz : 0 < z.length) : ∀ (n i : Nat), i < n * z.length → (replZero z n)[i]? = z[i % z.length]?
  | 0, i, h => by simp at h
  | n + 1, i, h => by
    simp only [replZero]
    by_cases hi : i < z.length
    · rw [List.getElem?_append_left hi, Nat.mod_eq_of_lt hi]
    · rw [List.getElem?_append_right (by omega), replZero_get z hz n (i - z.length) (by rw [Nat.add_mul] at h; omega)]
      rw [Nat.mod_eq_sub_mod (by omega : i ≥ z.length)]
theorem madeCells_rel {φ : Emb} {z : List SV} {zv : Array Value} (hz : All₂ (SRel φ) z zv.toList) (h0 : 0 < z.length) (n : Nat) : All₂ (SRel φ) (replZero z n) (madeCells zv (n * z.length)).toList := by
  have hl := forall₂_len hz
  refine forall₂_of_get (by simp [replZero_len, madeCells]) fun i a ha => ?_
  have hi : i < n * z.length := by rw [← replZero_len z n]; exact (List.getElem?_eq_some_iff.1 ha).1
  rw [replZero_get z h0 n i hi] at ha
  obtain ⟨v, h1, h2⟩ := forall₂_get hz _ ha
  refine ⟨v, ?_, h2⟩
  have hsz : zv.size = z.length := by rw [hl]; simp
  have hm : i % z.length < zv.size := by rw [hsz]; exact Nat.mod_lt _ h0
  simp only [Array.getElem?_toList] at h1 ⊢
  rw [Array.getElem?_eq_getElem hm] at h1
  simp [madeCells, hi, hsz, getElem!_pos zv (i % z.length) hm]
  simpa using h1
theorem sliceNew_rel {φ : Emb} {b : Key} {r n es tot : Nat} (len : Nat) (hlen : len ≤ n) : SRel (φ.set b ⟨r, 0, tot⟩) (.slice b 0 len es (some n)) (.slice (some ⟨r, 0, none⟩) len n) :=
  ⟨_, n, rfl, hlen, by simp, .inr ⟨_, Emb.set_same _ _ _, by simp, by simp⟩⟩
theorem ok_buildSlice (P : Program) (t : TypeId) (len : Nat) (parts : Array (Nat × Operand)) : Ok P (.buildSlice t len parts) := by
  intro vop xs hc
  simp only [cOp] at hc
  split at hc
  · next e hu =>
    split at hc
    · next z n hz hn =>
      split at hc
      · next hcond =>
        obtain ⟨hlim, hzl, hn0⟩ := hcond
        cases hps : placesBy (fun i => some (i * n, n)) parts.toList with
        | none => simp [hps] at hc
        | some ps =>
          simp only [hps, Option.map_some, Option.some.injEq, Prod.mk.injEq, VAct.op.injEq] at hc
          obtain ⟨rfl, rfl⟩ := hc
          intro o ho φ h nx w ρ args v h' hr s hb ha
          obtain ⟨dst, op, type, pos, after, guard⟩ := o
          simp only at ho; subst ho
          simp only [VOp.run] at hr
          unfold rBslice at hr
          split at hr
          · next cs hl =>
            cases hr
            obtain ⟨it, zv, h1, h2, h3⟩ := zerosT_ok (φ := φ) hz
            have hmade := madeCells_rel h3 (by omega) len
            rw [hzl] at hmade
            obtain ⟨arr, e1, e2⟩ := layParts_ok parts.toList ps args _ cs _ hps hl hmade ha
            obtain ⟨g1, g2⟩ := allocC_ok (w' := w.alloc (.cells arr e)) s hb e2 [] e (0, 0) true (fun _ => rfl) (by rw [List.append_nil]; rfl)
            refine ⟨.slice (some ⟨w.heap.size, 0, none⟩) len len, w.alloc (.cells arr e), .inl ?_, _, g1, g2, sliceNew_rel len (Nat.le_refl _)⟩
            have hno : ¬ (16777216 < len * n) := by omega
            by_cases h0 : len * n = 0
            · have hm0 : madeCells zv.cells 0 = #[] := by simp [madeCells, Array.range_zero']
              rw [h0, hm0] at e1
              simp [execOp, Instr.buildSlice, run_underlying hu, run_sizeOf hn, h0, Array.range_zero', e1, newRow]
            · unfold madeCells at e1
              simp [execOp, Instr.buildSlice, run_underlying hu, run_sizeOf hn, hno, h0, run_zero h1 h2, e1, newRow]
          · cases hr
      · cases hc
    · cases hc
  · cases hc
theorem ok_makeSlice (P : Program) (t : TypeId) (l c : Operand) : Ok P (.makeSlice t l c) := by
  intro vop xs hc
  simp only [cOp] at hc
  split at hc
  · next e hu =>
    split at hc
    · next z n k hz hn hk =>
      split at hc
      · next hcond =>
        obtain ⟨hzl, hn0⟩ := hcond
        cases hc
        intro o ho φ h nx w ρ args v h' hr s hb ha
        obtain ⟨dst, op, type, pos, after, guard⟩ := o
        simp only at ho; subst ho
        simp only [VOp.run] at hr
        unfold rMkslice at hr
        split at hr
        · next kl li kc ci =>
          split at hr
          · next hcnd =>
            obtain ⟨c1, c2, c3, c4⟩ := hcnd
            cases hr
            obtain ⟨a1, a2⟩ := arg2 ha
            have e1 : ρ l = .int kl li := a1
            have e2 : ρ c = .int kc ci := a2
            obtain ⟨it, zv, h1, h2, h3⟩ := zerosT_ok (φ := φ) hz
            obtain ⟨it1, f1, f2⟩ := sizeT_some hn
            obtain ⟨it2, f3, f4⟩ := bytesT_some hk
            rw [h1] at f1 f3
            cases f1; cases f3
            have c4' : k * ci.toNat ≤ 281474976710656 := Nat.le_of_ble_eq_true c4
            have hb48 : (it.bytes : Int) * ci ≤ 281474976710656 := by
              rw [f4, ← Int.toNat_of_nonneg (show 0 ≤ ci by omega)]
              have : ((k * ci.toNat : Nat) : Int) ≤ 281474976710656 := by omega
              simpa using this
            have hrun := run_make (P := P) w t e it zv hu h1 h2 kl kc li ci c1 c2 hb48 (by omega)
            rw [f2] at hrun
            have hmade := madeCells_rel h3 (by omega) ci.toNat
            rw [hzl] at hmade
            obtain ⟨g1, g2⟩ := allocC_ok (w' := w.alloc (.cells (madeCells zv.cells (ci.toNat * n)) e)) s hb hmade [] e (0, 0) true (fun _ => rfl) (by rw [List.append_nil]; rfl)
            exact ⟨_, _, .inl (by simp [execOp, e1, e2, hrun]), _, g1, g2, sliceNew_rel li.toNat (by omega)⟩
          · cases hr
        · cases hr
      · cases hc
    · cases hc
  · cases hc
end Go.Vm
end
section
namespace Go.Vm
open Key (kn)
section
variable {P : Program} {φ : Emb} {ρ : Operand → Value}
theorem arr1 {A : Array Operand} {a : AV} (h : All₂ (ARel φ) [a] (A.toList.map ρ)) : ∃ v, A.map ρ = #[v] ∧ ARel φ a v := by
  generalize hm : A.toList.map ρ = m at h
  cases h with
  | cons h t => cases t; exact ⟨_, by apply Array.ext'; simpa using hm, h⟩
theorem arr2 {A : Array Operand} {a b : AV} (h : All₂ (ARel φ) [a, b] (A.toList.map ρ)) : ∃ v u, A.map ρ = #[v, u] ∧ ARel φ a v ∧ ARel φ b u := by
  generalize hm : A.toList.map ρ = m at h
  cases h with
  | cons h t => cases t with
    | cons h2 t => cases t; exact ⟨_, _, by apply Array.ext'; simpa using hm, h, h2⟩
theorem bind_some {A : Array TypeId} {i : Nat} {d : TypeDesc} (h : (A[i]?).bind P.underlying = some d) : ∃ t, A[i]? = some t ∧ P.underlying t = some d := by
  cases hA : A[i]? with
  | none => simp [hA] at h
  | some t => simp [hA] at h; exact ⟨t, rfl, h⟩
theorem exec_builtin (dst : Option Tmp) (b : Builtin) (A : Array Operand) (ats : Array TypeId) (ty : TypeId) (pos : String) (af : Array Edge) (g : Option (Nat × Bool)) :
    execOp ρ ⟨dst, .call ⟨.builtin b, A, ats⟩, ty, pos, af, g⟩ = builtin b ats ty (A.map fun | .const _ => true | _ => false) (A.map ρ) := rfl
variable {w : World}
theorem srcCells_ok {h : Heap} {nx : Nat} (s : Sim φ h.get nx w) {es : Nat} {x : SV} {new : List SV} {n : Nat} (e : srcCells h es x = some (new, n)) {vx : Value} (hx : SRel φ x vx) :
    new.length = n * es ∧ (Builtin.lenOf vx).run P w = .ok n w ∧ ∃ vs : List Value, All₂ (SRel φ) new vs ∧
      ∀ (m : Nat) (w' : World), m ≤ n → w'.heap = w.heap → (Builtin.firstCells es m vx).run P w' = .ok (vs.take (m * es)).toArray w' := by
  unfold srcCells at e
  split at e
  · cases e; cases hx
    refine ⟨by simp, by simp [Builtin.lenOf], [], .nil, fun m w' _ _ => by simp [Builtin.firstCells]⟩
  · next b o len es' c =>
    split at e
    · next hes =>
      subst hes
      split at e
      · next l hread =>
        cases e
        obtain ⟨a, C, rfl, hlc, _, hloc⟩ := hx
        by_cases hc : C = 0
        · have hl0 : n = 0 := by omega
          subst hl0
          rw [Nat.zero_mul, read_zero] at hread
          cases hread
          refine ⟨by simp, by simp [Builtin.lenOf], [], .nil, fun m w' hm _ => ?_⟩
          have : m = 0 := by omega
          subst this
          simp [Builtin.firstCells, loadCells, loadCellsFrom]
        · obtain ⟨lc, f1, rfl, _⟩ := hloc.resolve_left hc
          obtain ⟨hl, vs, hv, hcell⟩ := s.read f1 hread
          have hvl : vs.length = n * es := by rw [← forall₂_len hv, hl]
          refine ⟨hl, by simp [Builtin.lenOf], vs, hv, fun m w' hm hw' => ?_⟩
          have hmn : m * es ≤ n * es := Nat.mul_le_mul_right _ hm
          have hlen : (vs.take (m * es)).length = m * es := by simp; omega
          have := run_loadCells_list (P := P) w' (⟨lc.blk, o + lc.off, none⟩ : Addr) (vs.take (m * es)) (fun j v hj => by
            rw [List.getElem?_take] at hj
            split at hj
            · have hc := hcell j v hj
              simp only [World.cell?] at hc ⊢
              rw [hw']; exact hc
            · cases hj)
          rw [hlen] at this
          simpa [Builtin.firstCells] using this
      · cases e
    · cases e
  · next sl =>
    split at e
    · next hes =>
      subst hes
      cases e
      obtain ⟨hlt, rfl⟩ := hx
      refine ⟨by simp, by simp [Builtin.lenOf]; exact bs_size sl, sl.map (fun n => Value.int .u8 (n : Nat)), forall₂_map _ _ _ (fun n _ => rfl), fun m w' hm _ => ?_⟩
      have hex : (bs sl).extract 0 m = bs (sl.take m) := by rw [bs_extract]; simp
      have hex' : (⟨(sl.map UInt8.ofNat).toArray⟩ : ByteArray).extract 0 m = bs (sl.take m) := hex
      simp only [Builtin.firstCells, hex', Sem.run_pure]
      congr 2
      simp only [bs, List.map_toArray, Nat.mul_one, ← List.map_take, List.map_map]
      congr 1
      apply List.map_congr_left
      intro n hn
      have := hlt n (List.mem_of_mem_take hn)
      simp only [Function.comp]
      rw [ofNat_toNat this]
    · cases e
  · cases e
theorem room_le {n bytes : Nat} (h : room n bytes = true) : 2 * n * bytes ≤ 281474976710656 := Nat.le_of_ble_eq_true h
theorem run_append_in {ats : Array TypeId} {ty st xt e : TypeId} {d : TypeDesc} {i : TypeInfo} {es sLen sCap n : Nat} {base : Option Addr} {vx : Value} {news : Array Value} {w' : World} (h0 : ats[0]? = some st) (hst : P.underlying st = some (.slice e))
    (h1 : ats[1]? = some xt) (hxt : P.underlying xt = some d) (hd : d = .string ∨ ∃ u, d = .slice u) (hi : P.info? e = some i) (hes : i.size = es) (hl : (Builtin.lenOf vx).run P w = .ok n w)
    (hnew : (Builtin.firstCells es n vx).run P w = .ok news w) (hle : sLen + n ≤ sCap) (hw : ∀ a, base = some a → (storeCells (a.add (sLen * es)) news.toList).run P w = .ok () w') (hno : base = none → w' = w) :
    (Builtin.append_ ats ty #[.slice base sLen sCap, vx]).run P w = .ok (.slice base (sLen + n) sCap) w' := by
  subst hes
  cases base with
  | none =>
    have := hno rfl
    subst this
    rcases hd with rfl | ⟨u, rfl⟩ <;> simp only [Builtin.append_, h0, h1, List.getElem?_toArray, List.getElem?_cons_zero, List.getElem?_cons_succ, Sem.run_bind, run_underlying hst, run_underlying hxt, Result.andThen_ok, Sem.run_pure, sizeOf, typeInfo, run_program, hi, hl, Bool.false_eq_true, if_false, hle, if_true, hnew, Bool.not_false]
  | some a =>
    rcases hd with rfl | ⟨u, rfl⟩ <;> simp only [Builtin.append_, h0, h1, List.getElem?_toArray, List.getElem?_cons_zero, List.getElem?_cons_succ, Sem.run_bind, run_underlying hst, run_underlying hxt, Result.andThen_ok, Sem.run_pure, sizeOf, typeInfo, run_program, hi, hl, Bool.false_eq_true, if_false, hle, if_true, hnew, hw a rfl, Bool.not_false]
theorem run_append_new {ats : Array TypeId} {ty st xt e : TypeId} {d : TypeDesc} {i : TypeInfo} {z : Value} {es by' sLen sCap n : Nat} {base : Option Addr} {vx : Value} {olds news : Array Value} (h0 : ats[0]? = some st) (hst : P.underlying st = some (.slice e))
    (h1 : ats[1]? = some xt) (hxt : P.underlying xt = some d) (hd : d = .string ∨ ∃ u, d = .slice u) (hi : P.info? e = some i) (hz : i.zero = some z) (hes : i.size = es) (hby : i.bytes = by') (hby0 : by' ≠ 0) (hl : (Builtin.lenOf vx).run P w = .ok n w)
    (hold : (Builtin.firstCells es sLen (.slice base sLen sCap)).run P w.drew = .ok olds w.drew) (hnew : (Builtin.firstCells es n vx).run P w.drew = .ok news w.drew) (hgt : sCap < sLen + n) (hroom : room (sLen + n) by' = true) :
    (Builtin.append_ ats ty #[.slice base sLen sCap, vx]).run P w =
      .ok (.slice (some ⟨w.heap.size, 0, none⟩) (sLen + n) (grownCap w (sLen + n) sCap e)) (w.drew.alloc (.cells (olds ++ news ++ Builtin.zeroCells z.cells (grownCap w (sLen + n) sCap e - (sLen + n))) e)) := by
  subst hes
  subst hby
  have hn : ¬ (sLen + n ≤ sCap) := by omega
  have hr := room_le hroom
  have h48 : ¬ (Builtin.nextslicecap (sLen + n) sCap * i.bytes > 2 ^ 48) := by
    have h5 := nextslicecap_le hgt
    have h6 : Builtin.nextslicecap (sLen + n) sCap * i.bytes ≤ 2 * (sLen + n) * i.bytes := Nat.mul_le_mul_right _ h5
    omega
  have hcond : ¬ (((sLen + n : Nat) : Int) > IntKind.i64.max ∧ (False ∨ i.bytes = 0)) := by simp [hby0]
  rcases hd with rfl | ⟨u, rfl⟩ <;> simp only [Builtin.append_, h0, h1, List.getElem?_toArray, List.getElem?_cons_zero, List.getElem?_cons_succ, Sem.run_bind, run_underlying hst, run_underlying hxt, Result.andThen_ok, Sem.run_pure, sizeOf, typeInfo, run_program, hi, hl, Bool.false_eq_true, if_false, hn, hcond, h48,
    run_choose, Question.forced, run_askRoom, World.drew_eq, hold, hnew, zeroValue, hz, newRow, run_newObj, World.alloc_eq, Bool.not_false, if_true, grownCap, World.size_drew]
end
end Go.Vm
end
section
namespace Go.Vm
open Key (kn)
theorem Sim.renew {φ : Emb} {h h' : Heap} {nx : Nat} {w : World} (s : Sim φ h.get nx w) (hb : φ h.next = none) {b b' : Key} {o k : Nat} {new : List SV}
    (e : h.renew b o k new = some (b', h')) {l : Loc} (hφ : k = 0 ∨ φ b = some l) {vs : List Value} (hv : All₂ (SRel φ) new vs) :
    b' = h.next ∧ h'.next = h.next.succ ∧ ∃ olds : List Value, olds.length = k ∧ (∀ j v, olds[j]? = some v → w.cell? ((⟨l.blk, o + l.off, none⟩ : Addr).add j) = some v) ∧
      ∀ (w' : World) (rest : List Value) (t : TypeId), w'.heap = w.heap.push (.cells (olds ++ vs ++ rest).toArray t (0, 0)) → (w'.os = w.os ∧ w'.output = w.output) →
        (∀ nx', nx ≤ nx' → h'.next.toNat ≤ nx' → Sim (φ.set h.next ⟨w.heap.size, 0, (olds ++ vs ++ rest).length⟩) h'.get nx' w') ∧
        Ext φ h.get h.next.toNat w (φ.set h.next ⟨w.heap.size, 0, (olds ++ vs ++ rest).length⟩) h'.get h'.next.toNat w' := by
  unfold Heap.renew at e
  split at e
  · next h0 =>
    cases e
    subst h0
    refine ⟨rfl, rfl, [], rfl, by simp, fun w' rest t hw' ho' => ?_⟩
    exact allocC_ok s hb hv rest t (0, 0) true (fun _ => rfl) (by simpa using hw') ho'
  · next h0 =>
    split at e
    · next c m hc =>
      split at e
      · next body hcp =>
        cases e
        obtain ⟨own, anc, hg⟩ := cells_of hc
        obtain ⟨hle, c', rfl, hc1, hc2⟩ := copied_spec hcp
        have hφ := hφ.resolve_left h0
        obtain ⟨ob, hw, arr, t, fr, rfl, hs, hm, _, hcell⟩ := s.blk b _ l hg hφ
        have hlen := forall₂_len hv
        refine ⟨rfl, rfl, (List.range k).map (fun j => arr.getD (l.off + (o + j)) undef), by simp, fun j v hj => ?_, fun w' rest t' hw' ho' => ?_⟩
        · have hj' : j < k := by
            have := (List.getElem?_eq_some_iff.1 hj).1
            simpa using this
          simp [hj'] at hj
          obtain ⟨sv, v', _, h2, _⟩ := hcell (o + j) (by omega)
          rw [addr_add]
          simp only [World.cell?, hw]
          rw [show o + l.off + j = l.off + (o + j) from by omega]
          rw [h2] at hj ⊢
          simp at hj
          simp [hj]
        · refine alloc_ok s hb ⟨.cells c' (k + new.length), true, []⟩ _ rfl hw' ⟨_, t', (0, 0), rfl, by simp, by simp; omega, fun _ => rfl, fun i hi => ?_⟩ ho'
          have hle' := Emb.le_set (φ := φ) ⟨w.heap.size, 0, ((List.range k).map (fun j => arr.getD (l.off + (o + j)) undef) ++ vs ++ rest).length⟩ hb
          by_cases hik : i < k
          · obtain ⟨sv, v, h1, h2, h3⟩ := hcell (o + i) (by omega)
            refine ⟨sv, v, by rw [hc1 i hik]; exact h1, ?_, h3.mono hle'⟩
            simp only [List.getElem?_toArray, Nat.zero_add]
            rw [List.append_assoc, List.getElem?_append_left (by simp; omega)]
            simp [hik, h2]
          · obtain ⟨j, rfl⟩ : ∃ j, i = k + j := ⟨i - k, by omega⟩
            have hj : j < new.length := by omega
            obtain ⟨v, h1, h2⟩ := forall₂_get hv j (a := new[j]) (by simp [hj])
            refine ⟨new[j], v, by rw [hc2 j hj]; simp [hj], ?_, h2.mono hle'⟩
            simp only [List.getElem?_toArray, Nat.zero_add]
            rw [List.append_assoc, List.getElem?_append_right (by simp)]
            simp only [List.length_map, List.length_range, show k + j - k = j from by omega]
            rw [List.getElem?_append_left (by omega)]; exact h1
      · cases e
    · cases e
section
variable {P : Program} {φ : Emb} {w : World}
theorem firstCells_at {es n c : Nat} {a : Addr} {olds : List Value} (hl : olds.length = n * es) (hc : ∀ j v, olds[j]? = some v → w.cell? (a.add j) = some v) :
    (Builtin.firstCells es n (.slice (some a) n c)).run P w.drew = .ok olds.toArray w.drew :=
  run_firstCells_some (P := P) w.drew es n a n c olds hl (by simpa using hc)
theorem zeroCells_len {z : List SV} {zv : Value} (h : All₂ (SRel φ) z zv.cells.toList) (n : Nat) : (Builtin.zeroCells zv.cells n).size = n * z.length := by
  rw [size_zeroCells, forall₂_len h]; simp
theorem sliceGrown_rel {b : Key} {r n es cap tot : Nat} (hle : n ≤ cap) (ht : cap * es = tot) : SRel (φ.set b ⟨r, 0, tot⟩) (.slice b 0 n es none) (.slice (some ⟨r, 0, none⟩) n cap) :=
  ⟨_, cap, rfl, hle, by simp, .inr ⟨_, Emb.set_same _ _ _, by simp, fun _ => by simp [ht]⟩⟩
end
theorem appendV_ok {P : Program} {φ : Emb} {h h' : Heap} {nx : Nat} {w : World} (s : Sim φ h.get nx w) (hb : φ h.next = none) {ats : Array TypeId} {ty st xt e : TypeId} {d : TypeDesc} {es by' n : Nat} (h0 : ats[0]? = some st) (hst : P.underlying st = some (.slice e))
    (h1 : ats[1]? = some xt) (hxt : P.underlying xt = some d) (hd : d = .string ∨ ∃ u, d = .slice u) (hes : sizeT P e = some es) (hby : bytesT P e = some by') (hby0 : by' ≠ 0) {z : List SV} (hz : zerosT P e = some z) (hzl : z.length = es)
    {x : SV} {new : List SV} (hsrc : srcCells h es x = some (new, n)) {vs vx : Value} (hx : SRel φ x vx) {sv r : SV} (hs : SRel φ sv vs) (ha : appendV h es by' sv new n = some (r, h')) :
    ∃ v' w', (Builtin.append_ ats ty #[vs, vx]).run P w = .ok v' w' ∧ ∃ φ', (∀ nx', nx ≤ nx' → h'.next.toNat ≤ nx' → Sim φ' h'.get nx' w') ∧ Ext φ h.get h.next.toNat w φ' h'.get h'.next.toNat w' ∧ SRel φ' r v' := by
  obtain ⟨hnl, hlen, news, hnv, hfirst⟩ := srcCells_ok (P := P) s hsrc hx
  obtain ⟨i, zv, hi, hiz, hzr⟩ := zerosT_ok (φ := φ) hz
  have hies : i.size = es := by
    obtain ⟨i', hi', h2⟩ := sizeT_some hes
    rw [hi] at hi'; cases hi'; exact h2
  have hiby : i.bytes = by' := by
    obtain ⟨i', hi', h2⟩ := bytesT_some hby
    rw [hi] at hi'; cases hi'; exact h2
  have hnvl : news.length = n * es := by rw [← forall₂_len hnv, hnl]
  have hfn : ∀ w', w'.heap = w.heap → (Builtin.firstCells es n vx).run P w' = .ok news.toArray w' := fun w' hw' => by
    have := hfirst n w' (Nat.le_refl _) hw'
    rwa [← hnvl, List.take_length] at this
  have hzsz := fun k => zeroCells_len (φ := φ) hzr k
  unfold appendV at ha
  split at ha
  · -- a nil slice
    cases hs
    split at ha
    · next hn0 =>
      cases ha
      subst hn0
      refine ⟨_, w, run_append_in h0 hst h1 hxt hd hi hies hlen (hfn w rfl) (Nat.le_refl _) (fun a ha => by cases ha) (fun _ => rfl), φ, fun nx' g1 _ => s.up g1, Ext.refl _ _ _ _, rfl⟩
    · next hn0 =>
      split at ha
      · next hroom =>
        cases ha
        have hgt : (0 : Nat) < 0 + n := by omega
        have hrun := run_append_new (P := P) (w := w) (ty := ty) (base := none) (sLen := 0) (sCap := 0) (olds := #[]) (news := news.toArray) h0 hst h1 hxt hd hi hiz hies hiby hby0 hlen (by simp [Builtin.firstCells]) (hfn w.drew rfl) hgt (by simpa using hroom)
        have hge := grownCap_ge w (0 + n) 0 e
        have hobj : (#[] ++ news.toArray ++ Builtin.zeroCells zv.cells (grownCap w (0 + n) 0 e - (0 + n))) = (news ++ (Builtin.zeroCells zv.cells (grownCap w (0 + n) 0 e - (0 + n))).toList).toArray := by
          apply Array.ext'; simp
        rw [hobj] at hrun
        obtain ⟨g1, g2⟩ := allocC_ok (w' := w.drew.alloc (.cells (news ++ (Builtin.zeroCells zv.cells (grownCap w (0 + n) 0 e - (0 + n))).toList).toArray e)) s hb hnv (Builtin.zeroCells zv.cells (grownCap w (0 + n) 0 e - (0 + n))).toList e (0, 0) true (fun _ => rfl) rfl
        refine ⟨_, _, hrun, _, g1, g2, ?_⟩
        have := sliceGrown_rel (φ := φ) (b := h.next) (r := w.heap.size) (n := n) (es := es) (cap := grownCap w (0 + n) 0 e) (tot := (news ++ (Builtin.zeroCells zv.cells (grownCap w (0 + n) 0 e - (0 + n))).toList).length) (by omega)
          (by simp only [List.length_append, Array.length_toList, hzsz, hnvl, hzl, ← Nat.add_mul]; congr 1; omega)
        simpa using this
      · cases ha
  · next b o len es' cap =>
    split at ha
    · next hee =>
      subst hee
      split at ha
      · next hn0 =>
        cases ha
        subst hn0
        obtain ⟨a, C, rfl, hlc, hcap, hloc⟩ := hs
        have hnil : news = [] := List.eq_nil_of_length_eq_zero (by simpa using hnvl)
        refine ⟨_, w, run_append_in h0 hst h1 hxt hd hi hies hlen (hfn w rfl) (by omega) (fun a _ => by simp [hnil, storeCells]) (fun _ => rfl), φ, fun nx' g1 _ => s.up g1, Ext.refl _ _ _ _, ⟨a, C, rfl, hlc, hcap, hloc⟩⟩
      · next hn0 =>
        obtain ⟨a, C, rfl, hlc, hcap, hloc⟩ := hs
        have fresh : ∀ (olds : List Value) (w0 : World), olds.length = len * es → (C ≠ 0 → ∀ j v, olds[j]? = some v → w.cell? (a.add j) = some v) → C < len + n → room (len + n) by' = true →
            (Builtin.append_ ats ty #[.slice (some a) len C, vx]).run P w = .ok (.slice (some ⟨w.heap.size, 0, none⟩) (len + n) (grownCap w (len + n) C e)) (w.drew.alloc (.cells (olds ++ news ++ (Builtin.zeroCells zv.cells (grownCap w (len + n) C e - (len + n))).toList).toArray e)) ∧
            grownCap w (len + n) C e * es = (olds ++ news ++ (Builtin.zeroCells zv.cells (grownCap w (len + n) C e - (len + n))).toList).length ∧ len + n ≤ grownCap w (len + n) C e := by
          intro olds w0 hol hoc hgt hroom
          have hge := grownCap_ge w (len + n) C e
          have hfo : (Builtin.firstCells es len (.slice (some a) len C)).run P w.drew = .ok olds.toArray w.drew := by
            by_cases hC : C = 0
            · have hl0 : len = 0 := by omega
              subst hl0
              have : olds = [] := List.eq_nil_of_length_eq_zero (by simpa using hol)
              subst this
              simp [Builtin.firstCells, loadCells, loadCellsFrom]
            · exact firstCells_at hol (hoc hC)
          have hrun := run_append_new (P := P) (w := w) (ty := ty) (base := some a) (sLen := len) (sCap := C) (olds := olds.toArray) (news := news.toArray) h0 hst h1 hxt hd hi hiz hies hiby hby0 hlen hfo (hfn w.drew rfl) hgt hroom
          have hobj : (olds.toArray ++ news.toArray ++ Builtin.zeroCells zv.cells (grownCap w (len + n) C e - (len + n))) = (olds ++ news ++ (Builtin.zeroCells zv.cells (grownCap w (len + n) C e - (len + n))).toList).toArray := by
            apply Array.ext'; simp
          rw [hobj] at hrun
          refine ⟨hrun, ?_, hge⟩
          simp only [List.length_append, Array.length_toList, hzsz, hnvl, hzl, hol, ← Nat.add_mul]; congr 1; omega
        split at ha
        · next c =>
          have hC : C = c := hcap c rfl
          subst hC
          split at ha
          · next hle =>
            split at ha
            · next h2 hw =>
              cases ha
              obtain ⟨l, f1, rfl, _⟩ := hloc.resolve_left (by omega)
              obtain ⟨arr, t, g1, g2, g3, g4, g5⟩ := s.write f1 hnv hw
              have hst' := run_storeCells_at P l.blk (o + len * es + l.off) t news 0 arr w g1 (by simpa using g2) (all_one hnv)
              simp only [Nat.add_zero] at hst'
              refine ⟨_, w.setRow l.blk (over arr (o + len * es + l.off) news), run_append_in h0 hst h1 hxt hd hi hies hlen (hfn w rfl) hle (fun a ha => ?_) (fun hh => by cases hh), φ, fun nx' k1 _ => g4.up k1, by rw [g3]; exact g5 _, ⟨_, C, rfl, hle, by simp, .inr ⟨l, f1, rfl, by simp⟩⟩⟩
              cases ha
              rw [addr_add, show o + l.off + len * es = o + len * es + l.off from by omega]
              exact hst'
            · cases ha
          · next hle =>
            split at ha
            · next hroom =>
              split at ha
              · next b2 h2 hren =>
                cases ha
                obtain ⟨lc, hlc2⟩ : ∃ lc : Loc, C ≠ 0 → φ b = some lc ∧ a = ⟨lc.blk, o + lc.off, none⟩ := by
                  rcases hloc with hh | ⟨l, h1, h2, _⟩
                  · exact ⟨⟨0, 0, 0⟩, fun hne => absurd hh hne⟩
                  · exact ⟨l, fun _ => ⟨h1, h2⟩⟩
                have hφ : len * es = 0 ∨ φ b = some lc := by
                  by_cases hh : C = 0
                  · exact .inl (by have : len = 0 := by omega
                                   simp [this])
                  · exact .inr (hlc2 hh).1
                obtain ⟨rfl, g2, olds, g3, g4, g5⟩ := s.renew hb hren hφ hnv
                obtain ⟨k1, k2, k3⟩ := fresh olds w g3 (fun hh j v hj => by
                  rw [(hlc2 hh).2]; exact g4 j v hj) (by omega) hroom
                obtain ⟨q1, q2⟩ := g5 (w.drew.alloc (.cells (olds ++ news ++ (Builtin.zeroCells zv.cells (grownCap w (len + n) C e - (len + n))).toList).toArray e)) _ e rfl ⟨rfl, rfl⟩
                exact ⟨_, _, k1, _, q1, q2, sliceGrown_rel k3 k2⟩
              · cases ha
            · cases ha
        · split at ha
          · next hroom =>
            split at ha
            · next b2 h2 hgr =>
              cases ha
              by_cases hfit : len + n ≤ C
              · obtain ⟨l, f1, rfl, f3⟩ := hloc.resolve_left (by omega)
                have f3 := f3 rfl
                have hf : o + l.off + len * es + news.length ≤ l.tot := by
                  rw [hnvl, ← f3, show o + l.off + len * es + n * es = o + l.off + (len + n) * es from by rw [Nat.add_mul]; omega]
                  have := Nat.mul_le_mul_right es hfit
                  omega
                obtain ⟨rfl, g2, arr, t, g3, g4, g5⟩ := s.grow_in (nx' := max nx (h.next.toNat + 1)) hb (by omega) (by omega) hgr f1 hnv hf
                have hn2 : h'.next.toNat = h.next.toNat + 1 := by rw [g2]; exact Key.toNat_succ _
                have hst' := run_storeCells_at P l.blk (o + l.off + len * es) t news 0 arr w g3 (by simpa using g4) (all_one hnv)
                simp only [Nat.add_zero] at hst'
                refine ⟨_, w.setRow l.blk (over arr (o + l.off + len * es) news), run_append_in h0 hst h1 hxt hd hi hies hlen (hfn w rfl) hfit (fun a ha => ?_) (fun hh => by cases hh), φ.set h.next ⟨l.blk, o + l.off, l.tot⟩, fun nx' k1 k2 => ?_, by rw [hn2]; exact g5.2, ⟨_, C, rfl, hfit, by simp, .inr ⟨_, Emb.set_same _ _ _, by simp, fun _ => by simp; omega⟩⟩⟩
                · cases ha
                  rw [addr_add]
                  exact hst'
                · exact g5.1.up (by omega)
              · obtain ⟨lc, hlc2⟩ : ∃ lc : Loc, C ≠ 0 → φ b = some lc ∧ a = ⟨lc.blk, o + lc.off, none⟩ := by
                  rcases hloc with hh | ⟨l, h1, h2, _⟩
                  · exact ⟨⟨0, 0, 0⟩, fun hne => absurd hh hne⟩
                  · exact ⟨l, fun _ => ⟨h1, h2⟩⟩
                have hφ : len * es = 0 ∨ φ b = some lc := by
                  by_cases hh : C = 0
                  · exact .inl (by have : len = 0 := by omega
                                   simp [this])
                  · exact .inr (hlc2 hh).1
                obtain ⟨rfl, g2, olds, g3, g4, g5⟩ := s.grow_new (nx' := max nx (h.next.toNat + 1)) hb (by omega) (by omega) hgr hφ hnv
                have hn2 : h'.next.toNat = h.next.toNat + 1 := by rw [g2]; exact Key.toNat_succ _
                obtain ⟨k1, k2, k3⟩ := fresh olds w g3 (fun hh j v hj => by
                  rw [(hlc2 hh).2]; exact g4 j v hj) (by omega) hroom
                obtain ⟨q1, q2⟩ := g5 (w.drew.alloc (.cells (olds ++ news ++ (Builtin.zeroCells zv.cells (grownCap w (len + n) C e - (len + n))).toList).toArray e)) _ e rfl ⟨rfl, rfl⟩
                exact ⟨_, _, k1, _, fun nx' k4 k5 => q1.up (by omega), by rw [hn2]; exact q2, sliceGrown_rel k3 k2⟩
            · cases ha
          · cases ha
    · cases ha
  · cases ha
end Go.Vm
end
section
namespace Go.Vm
open Key (kn)
theorem okAt_lens {P : Program} (A : Array Operand) (ats : Array TypeId) {t e : TypeId} (h0 : ats[0]? = some t) (hu : P.underlying t = some (.slice e)) :
    OkAt P (.call ⟨.builtin .len, A, ats⟩) .lens A.toList := by
  intro o ho φ h nx w ρ args v h' hr s _ ha
  obtain ⟨dst, op, type, pos, after, guard⟩ := o
  simp only at ho; subst ho
  simp only [VOp.run] at hr
  unfold rLens at hr
  split at hr
  · next b o' len es cap =>
    cases hr
    obtain ⟨v, e1, a, c, e2, _⟩ := arr1 ha
    exact pure_ok (v' := .int .i64 (len : Nat)) s (by rw [exec_builtin, e1, e2]; simp [builtin, Builtin.len_, h0, run_underlying hu, goInt]) rfl
  · cases hr
    obtain ⟨v, e1, e2⟩ := arr1 ha
    have e2 : v = .slice none 0 0 := e2
    exact pure_ok (v' := .int .i64 ((0 : Nat) : Int)) s (by rw [exec_builtin, e1, e2]; simp [builtin, Builtin.len_, h0, run_underlying hu, goInt]) rfl
  · cases hr
theorem okAt_lenstr {P : Program} (A : Array Operand) (ats : Array TypeId) {t : TypeId} (h0 : ats[0]? = some t) (hu : P.underlying t = some .string) :
    OkAt P (.call ⟨.builtin .len, A, ats⟩) .lenstr A.toList := by
  intro o ho φ h nx w ρ args v h' hr s _ ha
  obtain ⟨dst, op, type, pos, after, guard⟩ := o
  simp only at ho; subst ho
  simp only [VOp.run] at hr
  unfold rLenstr at hr
  split at hr
  · next sl =>
    cases hr
    obtain ⟨v, e1, hlt, e2⟩ := arr1 ha
    have e2 : v = .string (bs sl) := e2
    exact pure_ok (v' := .int .i64 (sl.length : Nat)) s (by rw [exec_builtin, e1, e2]; simp [builtin, Builtin.len_, h0, run_underlying hu, goInt, bs_size]) rfl
  · cases hr
theorem okAt_lenarr {P : Program} (A : Array Operand) (ats : Array TypeId) {t e : TypeId} {n : Nat} (h0 : ats[0]? = some t) (hu : P.underlying t = some (.array n e)) :
    OkAt P (.call ⟨.builtin .len, A, ats⟩) (.lenarr n) A.toList := by
  intro o ho φ h nx w ρ args v h' hr s _ ha
  obtain ⟨dst, op, type, pos, after, guard⟩ := o
  simp only at ho; subst ho
  simp only [VOp.run] at hr
  unfold rLenarr at hr
  split at hr
  · next x =>
    cases hr
    obtain ⟨v, e1, e2⟩ := arr1 ha
    exact pure_ok (v' := .int .i64 (n : Nat)) s (by rw [exec_builtin, e1]; simp [builtin, Builtin.len_, h0, run_underlying hu, goInt]) rfl
  · cases hr
theorem Sim.map {φ : Emb} {h : Heap} {nx : Nat} {w : World} (s : Sim φ h.get nx w) {b : Key} {lc : Loc} (hφ : φ b = some lc) {l : List (CV × CV)} {own : Bool} {anc : List Key} (hg : h.get b = some ⟨.map l, own, anc⟩) :
    ∃ arr : Array MapEntry, w.heap[lc.blk]? = some (.map arr arr.size) ∧ (∀ i (h : i < arr.size), arr[i].born = i) ∧ All₂ (fun p (e : MapEntry) => CRel φ p.1 e.key ∧ CRel φ p.2 e.val) l arr.toList := by
  obtain ⟨o, hw, arr, rfl, hb, hr⟩ := s.blk b _ lc hg hφ
  exact ⟨arr, hw, hb, hr⟩
theorem run_getObj {P : Program} {w : World} {r : Nat} {o : Obj} (h : w.heap[r]? = some o) (hn : ∀ c e f, o ≠ .cells c e f) : (getObj r).run P w = .ok o w := by
  cases o with
  | cells c e f => exact absurd rfl (hn c e f)
  | _ => simp only [getObj, Sem.run, h]
theorem okAt_lenm {P : Program} (A : Array Operand) (ats : Array TypeId) {t a b : TypeId} (h0 : ats[0]? = some t) (hu : P.underlying t = some (.map a b)) :
    OkAt P (.call ⟨.builtin .len, A, ats⟩) .lenm A.toList := by
  intro o ho φ h nx w ρ args v h' hr s _ ha
  obtain ⟨dst, op, type, pos, after, guard⟩ := o
  simp only at ho; subst ho
  simp only [VOp.run] at hr
  unfold rLenm at hr
  split at hr
  · cases hr
    obtain ⟨v, e1, e2⟩ := arr1 ha
    have e2 : v = .map none := e2
    exact pure_ok (v' := .int .i64 ((0 : Nat) : Int)) s (by rw [exec_builtin, e1, e2]; simp [builtin, Builtin.len_, h0, run_underlying hu, goInt]) rfl
  · next bk =>
    split at hr
    · next l own anc hg =>
      cases hr
      obtain ⟨v, e1, lc, e2, e3⟩ := arr1 ha
      obtain ⟨arr, f1, _, f3⟩ := s.map e2 hg
      have hl := forall₂_len f3
      refine pure_ok (v' := .int .i64 (l.length : Nat)) s ?_ rfl
      rw [exec_builtin, e1, e3]
      simp [builtin, Builtin.len_, h0, run_underlying hu, goInt, run_getObj f1 (by simp), hl]
    · cases hr
  · cases hr
theorem okAt_cap {P : Program} (A : Array Operand) (ats : Array TypeId) {t e : TypeId} (h0 : ats[0]? = some t) (hu : P.underlying t = some (.slice e)) :
    OkAt P (.call ⟨.builtin .cap, A, ats⟩) .cap A.toList := by
  intro o ho φ h nx w ρ args v h' hr s _ ha
  obtain ⟨dst, op, type, pos, after, guard⟩ := o
  simp only at ho; subst ho
  simp only [VOp.run] at hr
  unfold rCap at hr
  split at hr
  · next b o' len es k =>
    cases hr
    obtain ⟨v, e1, a, c, e2, _, e3, _⟩ := arr1 ha
    have := e3 k rfl
    subst this
    exact pure_ok (v' := .int .i64 (c : Nat)) s (by rw [exec_builtin, e1, e2]; simp [builtin, Builtin.cap_, h0, run_underlying hu, goInt]) rfl
  · cases hr
    obtain ⟨v, e1, e2⟩ := arr1 ha
    have e2 : v = .slice none 0 0 := e2
    exact pure_ok (v' := .int .i64 ((0 : Nat) : Int)) s (by rw [exec_builtin, e1, e2]; simp [builtin, Builtin.cap_, h0, run_underlying hu, goInt]) rfl
  · cases hr
theorem minmax_ok {P : Program} {φ : Emb} {w : World} (m : Bool) (k : IntKind) : ∀ (xs : List AV) (x : Int) (vs : List Value) (r : SV), minmaxSV m k x xs = some r → All₂ (ARel φ) xs vs →
    ∃ v', (vs.foldlM (if m then Builtin.max2 else Builtin.min2) (.int k x)).run P w = .ok v' w ∧ SRel φ r v'
  | [], x, vs, r, h, ha => by
    cases ha
    simp [minmaxSV] at h
    subst h
    exact ⟨_, by simp, rfl⟩
  | y :: xs, x, vs, r, h, ha => by
    cases ha with
    | cons hy ha =>
    unfold minmaxSV at h
    split at h
    · next e => cases e
    · next k' y' l e =>
      cases e
      have hy' : _ = Value.int k' y' := hy
      subst hy'
      obtain ⟨v', h1, h2⟩ := minmax_ok m k _ _ _ _ h ha
      refine ⟨v', ?_, h2⟩
      cases m <;> simp [Builtin.max2, Builtin.min2] at h1 ⊢ <;> exact h1
    · cases h
theorem okAt_minmax {P : Program} (m : Bool) (A : Array Operand) (ats : Array TypeId) : OkAt P (.call ⟨.builtin (if m then .max else .min), A, ats⟩) (.minmax m) A.toList := by
  intro o ho φ h nx w ρ args v h' hr s _ ha
  obtain ⟨dst, op, type, pos, after, guard⟩ := o
  simp only at ho; subst ho
  simp only [VOp.run] at hr
  unfold rMinmax at hr
  split at hr
  · next k x xs0 =>
    unfold noHeapS at hr
    split at hr
    · next r hm =>
      cases hr
      generalize hmm : A.toList.map ρ = vs at ha
      cases ha with
      | cons hx ha =>
      have hx : _ = Value.int k x := hx
      subst hx
      obtain ⟨v', h1, h2⟩ := minmax_ok (P := P) (w := w) m k _ _ _ _ hm ha
      refine pure_ok (v' := v') s ?_ h2
      rw [exec_builtin]
      cases m
      · simp only [Bool.false_eq_true, if_false] at h1 ⊢
        simp [builtin, Builtin.min_, hmm, h1]
      · simp only [if_true] at h1 ⊢
        simp [builtin, Builtin.max_, hmm, h1]
    · cases hr
  · cases hr
theorem okAt_append {P : Program} (A : Array Operand) (ats : Array TypeId) {st xt e : TypeId} {d : TypeDesc} {es by' : Nat} (h0 : ats[0]? = some st) (hst : P.underlying st = some (.slice e))
    (h1 : ats[1]? = some xt) (hxt : P.underlying xt = some d) (hd : d = .string ∨ ∃ u, d = .slice u) (hes : sizeT P e = some es) (hby : bytesT P e = some by') (hby0 : by' ≠ 0) {z : List SV} (hz : zerosT P e = some z) (hzl : z.length = es) :
    OkAt P (.call ⟨.builtin .append, A, ats⟩) (.append es by') A.toList := by
  intro o ho φ h nx w ρ args v h' hr s hb ha
  obtain ⟨dst, op, type, pos, after, guard⟩ := o
  simp only at ho; subst ho
  simp only [VOp.run] at hr
  unfold rAppend at hr
  split at hr
  · next sv x =>
    split at hr
    · next new n hsrc =>
      split at hr
      · next r h2 hap =>
        cases hr
        obtain ⟨vs, vx, e1, e2, e3⟩ := arr2 ha
        obtain ⟨v', w', f1, f2⟩ := appendV_ok (ty := type) s hb h0 hst h1 hxt hd hes hby hby0 hz hzl hsrc e3 e2 hap
        refine ⟨v', w', .inl ?_, f2⟩
        rw [exec_builtin, e1]
        simp [builtin, f1]
      · cases hr
    · cases hr
  · cases hr
theorem okAt_copy {P : Program} (A : Array Operand) (ats : Array TypeId) {st e : TypeId} {es : Nat} (h0 : ats[0]? = some st) (hst : P.underlying st = some (.slice e)) (hes : sizeT P e = some es) :
    OkAt P (.call ⟨.builtin .copy, A, ats⟩) (.copy es) A.toList := by
  intro o ho φ h nx w ρ args v h' hr s _ ha
  obtain ⟨dst, op, type, pos, after, guard⟩ := o
  simp only at ho; subst ho
  simp only [VOp.run] at hr
  unfold rCopy at hr
  split at hr
  · next dv x =>
    split at hr
    · next src n hsrc =>
      obtain ⟨vd, vx, e1, e2, e3⟩ := arr2 ha
      obtain ⟨hnl, hlen, vs, hnv, hfirst⟩ := srcCells_ok (P := P) s hsrc e3
      split at hr
      · cases hr
        have e2 : vd = .slice none 0 0 := e2
        have hf := hfirst 0 w (Nat.zero_le _) rfl
        refine pure_ok (v' := .int .i64 ((0 : Nat) : Int)) s ?_ rfl
        rw [exec_builtin, e1, e2]
        simp [builtin, Builtin.copy_, h0, run_underlying hst, hlen, run_sizeOf hes, hf, goInt]
      · next b o' len es' cap =>
        split at hr
        · next hee =>
          subst hee
          obtain ⟨a, C, rfl, hlc, hcap, hloc⟩ := e2
          have hmle : Nat.min n len ≤ n := Nat.min_le_left n len
          have hf := hfirst (Nat.min n len) w hmle rfl
          split at hr
          · next hmin =>
            cases hr
            have hmin' : Nat.min n len = 0 := hmin
            refine pure_ok (v' := .int .i64 ((0 : Nat) : Int)) s ?_ rfl
            rw [exec_builtin, e1]
            rw [hmin'] at hf
            simp at hf
            simp [builtin, Builtin.copy_, h0, run_underlying hst, hlen, run_sizeOf hes, hmin', hf, goInt, storeCells]
          · next hmin =>
            split at hr
            · next h2 hw =>
              cases hr
              have hC : C ≠ 0 := by
                have : min n len ≤ len := Nat.min_le_right n len
                omega
              obtain ⟨l, f1, rfl, _⟩ := hloc.resolve_left hC
              have hv := forall₂_take (min n len * es) hnv
              obtain ⟨arr, t, g1, g2, g3, g4, g5⟩ := s.write f1 hv hw
              have hst' := run_storeCells_at P l.blk (o' + l.off) t (vs.take (min n len * es)) 0 arr w g1 (by simpa using g2) (all_one hv)
              simp only [Nat.add_zero] at hst'
              refine ⟨.int .i64 (min n len : Nat), w.setRow l.blk (over arr (o' + l.off) (vs.take (min n len * es))), .inl ?_, φ, fun nx' k1 _ => g4.up k1, by rw [g3]; exact g5 _, rfl⟩
              rw [exec_builtin, e1]
              have hst2 : (storeCells ⟨l.blk, o' + l.off, none⟩ (vs.take (Nat.min n len * es))).run P w = .ok () (w.setRow l.blk (over arr (o' + l.off) (vs.take (min n len * es)))) := hst'
              simp only [builtin, Builtin.copy_, h0, List.getElem?_toArray, List.getElem?_cons_zero, List.getElem?_cons_succ, Sem.run_bind, run_underlying hst, Result.andThen_ok, hlen, run_sizeOf hes, hf, hst2, Sem.run_pure, goInt]
            · cases hr
        · cases hr
      · cases hr
    · cases hr
  · cases hr
theorem ok_builtin (P : Program) (b : Builtin) (A : Array Operand) (ats : Array TypeId) : Ok P (.call ⟨.builtin b, A, ats⟩) := by
  intro vop xs hc
  simp only [cOp, cCall] at hc
  split at hc
  · next hu => cases hc; obtain ⟨t, h0, hu⟩ := bind_some hu; exact okAt_lenstr A ats h0 hu
  · next e hu => cases hc; obtain ⟨t, h0, hu⟩ := bind_some hu; exact okAt_lens A ats h0 hu
  · next n e hu => cases hc; obtain ⟨t, h0, hu⟩ := bind_some hu; exact okAt_lenarr A ats h0 hu
  · next a b hu => cases hc; obtain ⟨t, h0, hu⟩ := bind_some hu; exact okAt_lenm A ats h0 hu
  · next e hu => cases hc; obtain ⟨t, h0, hu⟩ := bind_some hu; exact okAt_cap A ats h0 hu
  · cases hc; exact okAt_minmax false A ats
  · cases hc; exact okAt_minmax true A ats
  · next e hu =>
    obtain ⟨t, h0, hu⟩ := bind_some hu
    split at hc
    · next u n k z h1 hn hk hz =>
      split at hc
      · cases hc
      · next hcond =>
        cases hc
        obtain ⟨xt, h1, hxt⟩ := bind_some h1
        simp only [ne_eq, not_or, Classical.not_not] at hcond
        exact okAt_append A ats h0 hu h1 hxt (.inr ⟨_, rfl⟩) hn hk hcond.1 hz hcond.2
    · next n k z h1 hn hk hz =>
      split at hc
      · cases hc
      · next hcond =>
        cases hc
        obtain ⟨xt, h1, hxt⟩ := bind_some h1
        simp only [ne_eq, not_or, Classical.not_not] at hcond
        exact okAt_append A ats h0 hu h1 hxt (.inl rfl) hn hk hcond.1 hz hcond.2
    · cases hc
  · next e hu =>
    obtain ⟨t, h0, hu⟩ := bind_some hu
    cases hn : sizeT P e with
    | none => simp [hn] at hc
    | some n =>
      simp only [hn, Option.map_some, Option.some.injEq, Prod.mk.injEq, VAct.op.injEq] at hc
      obtain ⟨rfl, rfl⟩ := hc
      exact okAt_copy A ats h0 hu hn
  · cases hc
end Go.Vm
end

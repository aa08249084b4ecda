/- A part of the proof that the law CountTower answers true. No condition. -/
import Derived.Test.YtdhdjlocnjailaaGreatBase
import Derived.Test.YtdhdjlocnjailaaGreatVal
import Derived.RowKit3
set_option linter.unusedVariables false
set_option linter.unusedSimpArgs false
set_option linter.unusedSectionVars false
section
namespace Go.Pv.K
open Go.Vm
open Go.Vm.Key (kn)
theorem forceN_eq (n : Nat) (k : Nat → Bool) : forceN n k = k n := by cases n <;> rfl
theorem forceI_eq (n : Int) (k : Int → Bool) : forceI n k = k n := by
  cases n with
  | ofNat n => exact forceN_eq n (fun n => k (.ofNat n))
  | negSucc n => exact forceN_eq n (fun n => k (.negSucc n))
theorem forceB_eq (b : Bool) (k : Bool → Bool) : forceB b k = k b := by cases b <;> rfl
theorem forceV_eq (x : PV) (k : PV → Bool) : forceV x k = k x := by
  cases x with
  | bool b => exact forceB_eq b (fun b => k (.bool b))
  | int kd n => exact forceI_eq n (fun n => k (.int kd n))
  | _ => rfl
theorem forceA_eq (a : PA) (k : PA → Bool) : forceA a k = k a := by
  cases a with
  | tup l => rfl
  | v c => cases c with
    | s x => exact forceV_eq x (fun x => k (.v (.s x)))
    | agg l => rfl
theorem ite_t {c a b : Bool} (h : ite' c a b = true) : (c = true ∧ a = true) ∨ (c = false ∧ b = true) := by
  cases c
  · exact .inr ⟨rfl, h⟩
  · exact .inl ⟨rfl, h⟩
theorem ite_f {c a : Bool} (h : ite' c a false = true) : c = true ∧ a = true := by
  rcases ite_t h with h | h
  · exact h
  · exact ff h.2
theorem dfl_t {r : Option (PA × PHeap)} {k : KK} (h : dfl r k = true) : ∃ v h', r = some (v, h') ∧ k v h' = true := by
  cases r with
  | none => exact ff h
  | some p =>
    obtain ⟨v, m, n⟩ := p
    have h : forceA v (fun v => k v ⟨m, n⟩) = true := h
    rw [forceA_eq] at h
    exact ⟨v, _, rfl, h⟩
section
variable {α : Type}
theorem nthK_t {k : α → Bool} : ∀ {o : Nat} {l : List α}, nthK k o l = true → ∃ x, l[o]? = some x ∧ k x = true
  | 0, [], h => ff h
  | 0, x :: l, h => ⟨x, rfl, h⟩
  | o + 1, [], h => ff h
  | o + 1, x :: l, h => nthK_t (o := o) (l := l) h
theorem dropK_t {k : List α → Bool} : ∀ {o : Nat} {l : List α}, dropK k o l = true → o ≤ l.length ∧ k (l.drop o) = true
  | 0, l, h => ⟨Nat.zero_le _, h⟩
  | o + 1, [], h => ff h
  | o + 1, x :: l, h => by
    obtain ⟨h1, h2⟩ := dropK_t (o := o) (l := l) h
    exact ⟨by simp; omega, h2⟩
theorem takeK_t : ∀ {n : Nat} {l : List α} {k : List α → Bool}, takeK n l k = true → n ≤ l.length ∧ k (l.take n) = true
  | 0, l, k, h => ⟨Nat.zero_le _, h⟩
  | n + 1, [], k, h => ff h
  | n + 1, x :: l, k, h => by
    obtain ⟨h1, h2⟩ := takeK_t (n := n) (l := l) (k := fun r => k (x :: r)) h
    exact ⟨by simp; omega, h2⟩
theorem lenK_eq : ∀ l : List α, lenK l = l.length
  | [] => rfl
  | x :: l => congrArg (· + 1) (lenK_eq l)
end
theorem putK_t : ∀ {new l : List PV} {k : List PV → Bool}, putK new l k = true → new.length ≤ l.length ∧ k (new ++ l.drop new.length) = true
  | [], l, k, h => ⟨Nat.zero_le _, h⟩
  | y :: new, [], k, h => ff h
  | y :: new, x :: l, k, h => by
    obtain ⟨h1, h2⟩ := putK_t (new := new) (l := l) (k := fun r => k (y :: r)) h
    exact ⟨by simp; omega, h2⟩
theorem overK_t {new : List PV} : ∀ {o : Nat} {l : List PV} {k : List PV → Bool}, overK new o l k = true → o + new.length ≤ l.length ∧ k (PHeap.over l o new) = true
  | 0, l, k, h => by
    obtain ⟨h1, h2⟩ := putK_t (new := new) (l := l) (k := k) h
    exact ⟨by omega, by simpa [PHeap.over] using h2⟩
  | o + 1, [], k, h => ff h
  | o + 1, x :: l, k, h => by
    obtain ⟨h1, h2⟩ := overK_t (o := o) (l := l) (k := fun r => k (x :: r)) h
    refine ⟨by simp; omega, ?_⟩
    have : PHeap.over (x :: l) (o + 1) new = x :: PHeap.over l o new := by
      simp only [PHeap.over, List.take_succ_cons, List.cons_append]
      rw [show o + 1 + new.length = (o + new.length) + 1 from by omega, List.drop_succ_cons]
    rw [this]; exact h2
theorem getB_eq : ∀ (k : Key) (t : Tr PBlk), getB k t = t.get k
  | .h, .z => rfl
  | .h, .n _ _ _ => rfl
  | .o k, .z => rfl
  | .o k, .n l _ _ => getB_eq k l
  | .i k, .z => rfl
  | .i k, .n _ _ r => getB_eq k r
theorem upd_z (k : Key) (v : PBlk) : (Tr.z : Tr PBlk).upd k (some v) = Tr.sing (some v) k := by cases k <;> rfl
theorem updB_eq : ∀ (k : Key) (v : PBlk) (t : Tr PBlk) (c : Tr PBlk → Bool), updB k v t c = c (t.upd k (some v))
  | .h, v, .z, c => rfl
  | .h, v, .n _ _ _, c => rfl
  | .o k, v, .z, c => by
    show updB k v .z (fun l => c (.n l none .z)) = _
    rw [updB_eq k v .z, upd_z]; rfl
  | .o k, v, .n l x r, c => updB_eq k v l _
  | .i k, v, .z, c => by
    show updB k v .z (fun r => c (.n .z none r)) = _
    rw [updB_eq k v .z, upd_z]; rfl
  | .i k, v, .n l x r, c => updB_eq k v r _
theorem succK_eq : ∀ (k : Key) (c : Key → Bool), succK k c = c k.succ
  | .h, _ => rfl
  | .o _, _ => rfl
  | .i k, c => succK_eq k _
theorem onBlk_t {h : PHeap} {b : Key} {f : PBody → Bool → Bool → List Key → List (Nat × Nat) → Bool} (e : onBlk h b f = true) : ∃ x, h.get b = some x ∧ f x.body x.own x.frz x.anc x.log = true := by
  obtain ⟨mem, next⟩ := h
  have e : @Option.rec PBlk (fun _ => Bool) false (fun x => @PBlk.rec (fun _ => Bool) f x) (getB b mem) = true := e
  rw [getB_eq] at e
  cases hx : mem.get b with
  | none => rw [hx] at e; exact ff e
  | some x => rw [hx] at e; exact ⟨x, hx, e⟩
theorem onCells_t {h : PHeap} {b : Key} {f : List PV → Bool} (e : onCells h b f = true) : ∃ c, h.cells b = some c ∧ f c = true := by
  obtain ⟨⟨body, own, frz, anc, log⟩, h1, h2⟩ := onBlk_t e
  cases body with
  | cells c => exact ⟨c, by simp [PHeap.cells, h1], h2⟩
  | map _ => exact ff h2
  | iter _ _ _ => exact ff h2
theorem newK_eq (h : PHeap) (body : PBody) (k : Key → PHeap → Bool) : newK h body k = k h.next (h.new body) := by
  obtain ⟨mem, next⟩ := h
  show updB next ⟨body, true, false, [], []⟩ mem (fun mem => succK next (fun n => k next ⟨mem, n⟩)) = _
  rw [updB_eq, succK_eq]; rfl
theorem read_cells {h : PHeap} {b : Key} {c : List PV} (hc : h.cells b = some c) {o n : Nat} (hle : o + n ≤ c.length) : h.read b o n = some ((c.drop o).take n) := by
  unfold PHeap.read
  split
  · next h0 => subst h0; simp
  · simp [hc, hle]
def Snd1 (f : KOp1) (p : List PA → PHeap → PR) : Prop := ∀ a h k, f a h k = true → ∃ v h', p [a] h = some (v, h') ∧ k v h' = true
def Snd2 (f : KOp2) (p : List PA → PHeap → PR) : Prop := ∀ a b h k, f a b h k = true → ∃ v h', p [a, b] h = some (v, h') ∧ k v h' = true
theorem onV_t {a : PA} {f : PV → Bool} (e : onV a f = true) : ∃ x, a = .v (.s x) ∧ f x = true := by
  cases a with
  | tup l => exact ff e
  | v c => cases c with
    | s x => exact ⟨x, rfl, e⟩
    | agg l => exact ff e
theorem onPtr_t {x : PV} {f : Key → Nat → Bool} {r : List PV → Bool} {e : Bool} (h : onPtr x f r e = true) : (∃ b o, x = .ptr b o ∧ f b o = true) ∨ (∃ l, x = .rp l ∧ r l = true) ∨ e = true := by
  cases x <;> first | exact .inl ⟨_, _, rfl, h⟩ | exact .inr (.inl ⟨_, rfl, h⟩) | exact .inr (.inr h)
theorem onPtr_f {x : PV} {f : Key → Nat → Bool} {r : List PV → Bool} (h : onPtr x f r false = true) : (∃ b o, x = .ptr b o ∧ f b o = true) ∨ (∃ l, x = .rp l ∧ r l = true) := by
  rcases onPtr_t h with h | h | h
  · exact .inl h
  · exact .inr h
  · exact ff h
theorem onInt_t {x : PV} {f : IntKind → Int → Bool} {e : Bool} (h : onInt x f e = true) : (∃ k n, x = .int k n ∧ f k n = true) ∨ e = true := by
  cases x <;> first | exact .inl ⟨_, _, rfl, h⟩ | exact .inr h
theorem onBool_t {x : PV} {f : Bool → Bool} (h : onBool x f = true) : ∃ b, x = .bool b ∧ f b = true := by
  cases x <;> first | exact ⟨_, rfl, h⟩ | exact ff h
theorem onSl_t {x : PV} {f : Key → Nat → Nat → Nat → Bool} {g : Nat → List (List PV) → Bool} {n : Bool} (h : onSl x f g n = true) :
    (∃ b o len es cap, x = .slice b o len es cap ∧ f b o len es = true) ∨ (∃ es l cap, x = .lst es l cap ∧ g es l = true) ∨ (x = .nils ∧ n = true) := by
  cases x <;> first | exact .inl ⟨_, _, _, _, _, rfl, h⟩ | exact .inr (.inl ⟨_, _, _, rfl, h⟩) | exact .inr (.inr ⟨rfl, h⟩) | exact ff h
theorem load1_s : Snd1 kLoad1 pLoad1 := by
  intro a h k e0
  obtain ⟨x, rfl, e1⟩ := onV_t e0
  rcases onPtr_f e1 with ⟨b, o, rfl, e2⟩ | ⟨l, rfl, e2⟩
  · obtain ⟨c, h1, e3⟩ := onCells_t e2
    obtain ⟨x, h2, e4⟩ := nthK_t e3
    have hlt := (List.getElem?_eq_some_iff.1 h2).1
    have hr := read_cells h1 (o := o) (n := 1) (by omega)
    have : (c.drop o).take 1 = [x] := by
      rw [List.drop_eq_getElem_cons hlt]
      simp [(List.getElem?_eq_some_iff.1 h2).2]
    rw [this] at hr
    exact ⟨_, _, by simp only [pLoad1, hr], e4⟩
  · cases l with
    | nil => exact ff e2
    | cons v l => exact ⟨_, _, rfl, e2⟩
theorem loadn_s (n : Nat) : Snd1 (kLoadn n) (pLoadn n) := by
  intro a h k e0
  obtain ⟨x, rfl, e1⟩ := onV_t e0
  rcases onPtr_f e1 with ⟨b, o, rfl, e2⟩ | ⟨l, rfl, e2⟩
  · obtain ⟨c, h1, e3⟩ := onCells_t e2
    obtain ⟨h2, e4⟩ := dropK_t e3
    obtain ⟨h3, e5⟩ := takeK_t e4
    have hr := read_cells h1 (o := o) (n := n) (by simp at h3; omega)
    exact ⟨_, _, by simp only [pLoadn, hr], e5⟩
  · obtain ⟨h3, e3⟩ := takeK_t e2
    exact ⟨_, _, by simp only [pLoadn]; rw [if_pos h3], e3⟩
theorem nilchk_s : Snd1 kNilchk pNilchk := by
  intro a h k e0
  obtain ⟨x, rfl, e1⟩ := onV_t e0
  rcases onPtr_t e1 with ⟨b, o, rfl, e2⟩ | ⟨l, rfl, e2⟩ | e2
  · exact ⟨_, _, rfl, e2⟩
  · exact ⟨_, _, rfl, e2⟩
  · exact dfl_t e2
theorem faddr_s (off : Nat) : Snd1 (kFaddr off) (pFaddr off) := by
  intro a h k e0
  obtain ⟨x, rfl, e1⟩ := onV_t e0
  rcases onPtr_f e1 with ⟨b, o, rfl, e2⟩ | ⟨l, rfl, e2⟩
  · rw [forceN_eq] at e2
    exact ⟨_, _, rfl, e2⟩
  · obtain ⟨h1, e3⟩ := dropK_t e2
    exact ⟨_, _, by simp only [pFaddr]; rw [if_pos h1], e3⟩
theorem lens_s : Snd1 kLens pLens := by
  intro a h k e0
  obtain ⟨x, rfl, e1⟩ := onV_t e0
  rcases onSl_t e1 with ⟨b, o, len, es, cap, rfl, e2⟩ | ⟨es, l, cap, rfl, e2⟩ | ⟨rfl, e2⟩
  · exact ⟨_, _, rfl, e2⟩
  · rw [forceN_eq, lenK_eq] at e2
    exact ⟨_, _, rfl, e2⟩
  · exact ⟨_, _, rfl, e2⟩
theorem extract_s (i : Nat) : Snd1 (kExtract i) (pExtract i) := by
  intro a h k e0
  cases a with
  | v c => exact ff e0
  | tup l =>
    obtain ⟨x, h1, e1⟩ := nthK_t (l := l) e0
    exact ⟨_, _, by simp only [pExtract, h1, noP], e1⟩
theorem not_s : Snd1 kNot (pUn .not) := by
  intro a h k e0
  obtain ⟨x, rfl, e1⟩ := onV_t e0
  obtain ⟨b, rfl, e2⟩ := onBool_t e1
  cases b <;> exact ⟨_, _, rfl, e2⟩
theorem cellsK_t {c : PC} {f : List PV → Bool} (e : cellsK c f = true) : f c.cells = true := by cases c <;> exact e
theorem box_s (n : Nat) : Snd1 (kBox n) (pBox n) := by
  intro a h k e0
  cases a with
  | tup l => exact ff e0
  | v c =>
    have e1 := cellsK_t (c := c) (f := fun l => ite' (Nat.beq (lenK l) n) (newK h (.cells l) (fun b h => k (.v (.s (.ptr b 0))) h)) false) e0
    obtain ⟨h1, e2⟩ := ite_f e1
    rw [lenK_eq, Nat.beq_eq] at h1
    rw [newK_eq] at e2
    exact ⟨_, _, by simp only [pBox]; rw [if_pos h1], e2⟩
theorem isl_s (es : Nat) : Snd2 (kIsl es) (pIsl es) := by
  intro a i h k e0
  obtain ⟨x, rfl, e1⟩ := onV_t e0
  obtain ⟨i, rfl, e2⟩ := onV_t e1
  rcases onInt_t e2 with ⟨kd, n, rfl, e3⟩ | e3
  · cases n with
    | negSucc n => exact ff e3
    | ofNat n =>
      rcases onSl_t e3 with ⟨b, o, len, es', cap, rfl, e4⟩ | ⟨es', l, cap, rfl, e4⟩ | ⟨rfl, e4⟩
      · obtain ⟨h1, e5⟩ := ite_f e4
        obtain ⟨h2, e6⟩ := ite_f e5
        rw [Nat.ble_eq] at h1
        rw [Nat.beq_eq] at h2
        rw [forceN_eq] at e6
        refine ⟨_, _, ?_, e6⟩
        simp only [pIsl]
        rw [if_pos ⟨h2, Int.natCast_nonneg n, by simp only [Int.ofNat_eq_natCast]; omega⟩]
        rfl
      · obtain ⟨h2, e5⟩ := ite_f e4
        rw [Nat.beq_eq] at h2
        obtain ⟨x, h1, e6⟩ := nthK_t e5
        refine ⟨_, _, ?_, e6⟩
        simp only [pIsl]
        rw [if_pos ⟨h2, Int.natCast_nonneg n⟩]
        simp only [Int.ofNat_eq_natCast, Int.toNat_natCast, h1]
      · exact ff e4
  · exact ff e3
theorem store_s (n : Nat) : Snd2 (kStore n) (pStore n) := by
  intro a v h k e0
  obtain ⟨x, rfl, e1⟩ := onV_t e0
  rcases onPtr_f e1 with ⟨b, o, rfl, e2⟩ | ⟨l, rfl, e2⟩
  · cases v with
    | tup l => exact ff e2
    | v c =>
      have e3 := cellsK_t (c := c) e2
      obtain ⟨h1, e4⟩ := ite_f e3
      rw [lenK_eq, Nat.beq_eq] at h1
      obtain ⟨mem, next⟩ := h
      have e5 : @Option.rec PBlk (fun _ => Bool) false (fun x => @PBlk.rec (fun _ => Bool) (fun body own frz anc log =>
        @PBody.rec (fun _ => Bool) (fun d => @List.rec Key (fun _ => Bool)
          (ite' own (ite' frz false (overK c.cells o d (fun c => updB b ⟨.cells c, true, false, [], (o, n) :: log⟩ mem (fun mem => k .unit ⟨mem, next⟩)))) false)
          (fun _ _ _ => dfl (pStore n [.v (.s (.ptr b o)), .v c] ⟨mem, next⟩) k) anc) (fun _ => false) (fun _ _ _ => false) body) x) (getB b mem) = true := e4
      rw [getB_eq] at e5
      cases hx : mem.get b with
      | none => rw [hx] at e5; exact ff e5
      | some x =>
        rw [hx] at e5
        obtain ⟨body, own, frz, anc, log⟩ := x
        cases body with
        | map _ => exact ff e5
        | iter _ _ _ => exact ff e5
        | cells d =>
          cases anc with
          | cons _ _ => exact dfl_t e5
          | nil =>
            obtain ⟨h2, e6⟩ := ite_f e5
            subst h2
            rcases ite_t e6 with ⟨h3, e7⟩ | ⟨h3, e7⟩
            · exact ff e7
            · subst h3
              obtain ⟨h4, e8⟩ := overK_t e7
              rw [updB_eq] at e8
              refine ⟨_, _, ?_, e8⟩
              have hg : (⟨mem, next⟩ : PHeap).get b = some ⟨.cells d, true, false, [], log⟩ := hx
              have hw : (⟨mem, next⟩ : PHeap).write b o c.cells = some ⟨mem.upd b (some ⟨.cells (PHeap.over d o c.cells), true, false, [], (o, n) :: log⟩), next⟩ := by
                simp only [PHeap.write, hg]
                rw [if_pos ⟨h4, rfl⟩, h1]
                rfl
              simp only [pStore]
              rw [if_pos h1]
              simp only [hw]
  · exact ff e2
theorem on64_t {x y : PV} {f : Nat → Nat → Bool} {e : Bool} (h : on64 x y f e = true) : (∃ m n : Nat, x = .int .i64 (.ofNat m) ∧ y = .int .i64 (.ofNat n) ∧ f m n = true) ∨ e = true := by
  rcases onInt_t h with ⟨kd, a, rfl, h1⟩ | h1
  · rcases onInt_t h1 with ⟨kd', b, rfl, h2⟩ | h2
    · have k1 : ∀ k : IntKind, is64 k = true → k = .i64 := fun k e => by cases k <;> first | rfl | exact ff e
      cases hk : is64 kd with
      | false => rw [hk] at h2; exact .inr h2
      | true =>
      cases hk' : is64 kd' with
      | false => rw [hk, hk'] at h2; exact .inr h2
      | true =>
      rw [hk, hk'] at h2
      cases k1 _ hk; cases k1 _ hk'
      cases a with
      | negSucc a => exact .inr h2
      | ofNat a =>
        cases b with
        | negSucc b => exact .inr h2
        | ofNat b => exact .inl ⟨a, b, rfl, rfl, h2⟩
    · exact .inr h2
  · exact .inr h1
theorem wrap64 {n : Nat} (h : n ≤ 9223372036854775807) : IntKind.i64.wrap (.ofNat n) = .ofNat n := by
  unfold IntKind.wrap
  have h1 : (Int.ofNat n) % (2 ^ IntKind.i64.bits : Int) = Int.ofNat n := by
    show (Int.ofNat n) % (18446744073709551616 : Int) = _
    simp only [Int.ofNat_eq_natCast]; omega
  simp only [h1]
  rw [if_neg]
  simp only [Bool.and_eq_true, not_and, decide_eq_true_eq]
  intro _
  show ¬ (Int.ofNat n ≥ (9223372036854775808 : Int))
  simp only [Int.ofNat_eq_natCast]; omega
theorem add_s : Snd2 kAdd (pBin .add) := by
  intro a c h k e0
  obtain ⟨x, rfl, e1⟩ := onV_t e0
  obtain ⟨y, rfl, e2⟩ := onV_t e1
  rcases on64_t e2 with ⟨m, n, rfl, rfl, e3⟩ | e3
  · rcases ite_t e3 with ⟨h1, e4⟩ | ⟨_, e4⟩
    · rw [Nat.ble_eq] at h1
      rw [forceN_eq] at e4
      refine ⟨_, _, ?_, e4⟩
      show noPS h (ofSV (.int .i64 (IntKind.i64.wrap (Int.ofNat m + Int.ofNat n)))) = _
      have : Int.ofNat m + Int.ofNat n = Int.ofNat (Nat.add m n) := rfl
      rw [this, wrap64 h1]; rfl
    · exact dfl_t e4
  · exact dfl_t e3
theorem sub_s : Snd2 kSub (pBin .sub) := by
  intro a c h k e0
  obtain ⟨x, rfl, e1⟩ := onV_t e0
  obtain ⟨y, rfl, e2⟩ := onV_t e1
  rcases on64_t e2 with ⟨m, n, rfl, rfl, e3⟩ | e3
  · rcases ite_t e3 with ⟨h1, e4⟩ | ⟨_, e4⟩
    · rcases ite_t e4 with ⟨h2, e5⟩ | ⟨_, e5⟩
      · rw [Nat.ble_eq] at h1 h2
        rw [forceN_eq] at e5
        refine ⟨_, _, ?_, e5⟩
        show noPS h (ofSV (.int .i64 (IntKind.i64.wrap (Int.ofNat m - Int.ofNat n)))) = _
        have : Int.ofNat m - Int.ofNat n = Int.ofNat (Nat.sub m n) := by
          simp only [Int.ofNat_eq_natCast, Nat.sub_eq]; omega
        rw [this, wrap64 (by simp only [Nat.sub_eq]; omega)]; rfl
      · exact dfl_t e5
    · exact dfl_t e4
  · exact dfl_t e3
theorem cmp_s {b : BinOp} {f : Nat → Nat → Bool} (hb : ∀ m n : Nat, binP b (.int .i64 (.ofNat m)) (.int .i64 (.ofNat n)) = some (.bool (f m n))) : Snd2 (kCmp b f) (pBin b) := by
  intro a c h k e0
  obtain ⟨x, rfl, e1⟩ := onV_t e0
  obtain ⟨y, rfl, e2⟩ := onV_t e1
  rcases on64_t e2 with ⟨m, n, rfl, rfl, e3⟩ | e3
  · refine ⟨.v (.s (.bool (f m n))), h, by simp only [pBin, hb, noPS], ?_⟩
    cases hf : f m n with
    | false => rw [hf] at e3; exact e3
    | true => rw [hf] at e3; exact e3
  · exact dfl_t e3
theorem bool_ext {a b : Bool} (h : a = true ↔ b = true) : a = b := by cases a <;> cases b <;> simp_all
theorem bin_s (b : BinOp) : ∃ f, kBinF b = .mk f ∧ Snd2 f (pBin b) := by
  have any : Snd2 (anyBin b) (pBin b) := fun a c h k e => dfl_t e
  cases b <;> first | exact ⟨_, rfl, any⟩ | skip
  · exact ⟨_, rfl, add_s⟩
  · exact ⟨_, rfl, sub_s⟩
  · refine ⟨_, rfl, cmp_s fun m n => ?_⟩
    show some (PV.bool ((Int.ofNat m) == (Int.ofNat n))) = _
    congr 2
    exact bool_ext (by simp only [beq_iff_eq, Nat.beq_eq, Int.ofNat_eq_natCast]; omega)
  · refine ⟨_, rfl, cmp_s fun m n => ?_⟩
    show some (PV.bool ((Int.ofNat m) != (Int.ofNat n))) = _
    have : notB (Nat.beq m n) = !(Nat.beq m n) := by cases Nat.beq m n <;> rfl
    rw [this]
    congr 2
    exact bool_ext (by simp only [bne_iff_ne, Bool.not_eq_true', ne_eq, Int.ofNat_eq_natCast]; rw [← Bool.not_eq_true, Nat.beq_eq]; omega)
  · refine ⟨_, rfl, cmp_s fun m n => ?_⟩
    show some (PV.bool (decide ((Int.ofNat m) < (Int.ofNat n)))) = _
    congr 2
    exact bool_ext (by simp only [decide_eq_true_eq, Nat.ble_eq, Int.ofNat_eq_natCast]; omega)
  · refine ⟨_, rfl, cmp_s fun m n => ?_⟩
    show some (PV.bool (decide ((Int.ofNat m) ≤ (Int.ofNat n)))) = _
    congr 2
    exact bool_ext (by simp only [decide_eq_true_eq, Nat.ble_eq, Int.ofNat_eq_natCast]; omega)
  · refine ⟨_, rfl, cmp_s fun m n => ?_⟩
    show some (PV.bool (decide ((Int.ofNat m) > (Int.ofNat n)))) = _
    congr 2
    exact bool_ext (by simp only [decide_eq_true_eq, Nat.ble_eq, Int.ofNat_eq_natCast]; omega)
  · refine ⟨_, rfl, cmp_s fun m n => ?_⟩
    show some (PV.bool (decide ((Int.ofNat m) ≥ (Int.ofNat n)))) = _
    congr 2
    exact bool_ext (by simp only [decide_eq_true_eq, Nat.ble_eq, Int.ofNat_eq_natCast]; omega)
theorem appK_eq (m : List PV) : ∀ (l : List PV) (k : List PV → Bool), appK l m k = k (l ++ m)
  | [], _ => rfl
  | x :: l, k => appK_eq m l _
theorem flatK_eq : ∀ (l : List (List PV)) (k : List PV → Bool), flatK l k = k l.flatten
  | [], _ => rfl
  | x :: l, k => by
    show flatK l (fun r => appK x r k) = _
    rw [flatK_eq l, appK_eq]; rfl
theorem srcK_t {es : Nat} {x : PV} {h : PHeap} {k : List PV → Nat → Bool} {e : Bool} (t : srcK es x h k e = true) : (∃ l n, srcP h es x = some (l, n) ∧ k l n = true) ∨ e = true := by
  cases x <;> first | exact .inr t | skip
  · next b o len es' cap =>
    obtain ⟨h1, t⟩ := ite_f (c := Nat.beq es es') t
    rw [Nat.beq_eq] at h1
    refine .inl ?_
    cases hm : Nat.mul len es with
    | zero =>
      rw [hm] at t
      have hm : len * es = 0 := hm
      exact ⟨[], len, by simp only [srcP, if_pos h1, PHeap.read, hm, if_true], t⟩
    | succ m =>
      rw [hm] at t
      have hm : len * es = m + 1 := hm
      obtain ⟨c, h2, t⟩ := onCells_t t
      obtain ⟨h3, t⟩ := dropK_t t
      obtain ⟨h4, t⟩ := takeK_t t
      have hr := read_cells h2 (o := o) (n := m + 1) (by simp at h4; omega)
      exact ⟨_, _, by simp only [srcP, if_pos h1, hm, hr], t⟩
  · exact .inl ⟨[], 0, rfl, t⟩
  · next es' l cap =>
    obtain ⟨h1, t⟩ := ite_f (c := Nat.beq es es') t
    rw [Nat.beq_eq] at h1
    have t : flatK l (fun c => forceN (lenK l) (fun n => k c n)) = true := t
    rw [flatK_eq, forceN_eq, lenK_eq] at t
    exact .inl ⟨_, _, by simp only [srcP, if_pos h1], t⟩
theorem growK_t {h : PHeap} {b : Key} {o n : Nat} {new : List PV} {k : Key → PHeap → Bool} {e : Bool} (t : growK h b o n new k e = true) : (∃ g, h.grow b o n new = some (h.next, g) ∧ k h.next g = true) ∨ e = true := by
  obtain ⟨mem, next⟩ := h
  have t : @Option.rec PBlk (fun _ => Bool) false (fun x => @PBlk.rec (fun _ => Bool) (fun body own frz anc log =>
    @PBody.rec (fun _ => Bool) (fun c => ite' own (ite' (Nat.beq (Nat.add o n) (lenK c))
      (dropK (fun d => takeK n d (fun d => appK d new (fun d => updB b ⟨.cells c, false, frz, anc, log⟩ mem (fun mem => updB next ⟨.cells d, true, false, b :: anc, []⟩ mem (fun mem => succK next (fun n => k next ⟨mem, n⟩)))))) o c) e) false)
      (fun _ => false) (fun _ _ _ => false) body) x) (getB b mem) = true := t
  rw [getB_eq] at t
  cases hx : mem.get b with
  | none => rw [hx] at t; exact ff t
  | some x =>
    rw [hx] at t
    obtain ⟨body, own, frz, anc, log⟩ := x
    cases body with
    | map _ => exact ff t
    | iter _ _ _ => exact ff t
    | cells c =>
      obtain ⟨h1, t0⟩ := ite_f t
      subst h1
      rcases ite_t t0 with ⟨h2, t1⟩ | ⟨_, t1⟩
      · rw [Nat.beq_eq, lenK_eq] at h2
        have h2 : o + n = c.length := h2
        obtain ⟨h3, t2⟩ := dropK_t t1
        obtain ⟨h4, t3⟩ := takeK_t t2
        rw [appK_eq, updB_eq, updB_eq, succK_eq] at t3
        refine .inl ⟨_, ?_, t3⟩
        have hg : (⟨mem, next⟩ : PHeap).get b = some ⟨.cells c, true, frz, anc, log⟩ := hx
        simp only [PHeap.grow, hg, PHeap.copied]
        rw [if_pos (show o + n ≤ c.length by omega)]
        simp only
        rw [if_pos h2]
        rfl
      · exact .inr t1
theorem append_s (es bytes : Nat) : Snd2 (kAppend es bytes) (pAppend es bytes) := by
  intro a c h k e0
  obtain ⟨s, rfl, e1⟩ := onV_t e0
  obtain ⟨x, rfl, e2⟩ := onV_t e1
  rcases srcK_t e2 with ⟨l, n, h1, e3⟩ | e3
  · rcases ite_t e3 with ⟨_, e4⟩ | ⟨hn, e4⟩
    · exact dfl_t e4
    · have hn0 : n ≠ 0 := by rintro rfl; simp at hn
      cases s <;> first | exact dfl_t e4 | skip
      · next b o len es' cap =>
        cases cap with
        | some _ => exact dfl_t e4
        | none =>
          obtain ⟨h2, e5⟩ := ite_f (c := Nat.beq es es') e4
          rw [Nat.beq_eq] at h2
          obtain ⟨h3, e6⟩ := ite_f e5
          rcases growK_t e6 with ⟨g, h4, e7⟩ | e7
          · rw [forceN_eq] at e7
            refine ⟨_, _, ?_, e7⟩
            have h3 : room (len + n) bytes = true := h3
            have h4 : h.grow b o (len * es) l = some (h.next, g) := h4
            simp only [pAppend, h1, appendP]
            rw [if_pos h2, if_neg hn0, if_pos h3]
            simp only [h4]; rfl
          · exact dfl_t e7
      · obtain ⟨h3, e5⟩ := ite_f e4
        rw [newK_eq] at e5
        refine ⟨_, _, ?_, e5⟩
        simp only [pAppend, h1, appendP]
        rw [if_neg hn0, if_pos h3]
  · exact dfl_t e3
def SndN (f : KOpN) (p : List PA → PHeap → PR) : Prop := ∀ xs h k, f xs h k = true → ∃ v h', p xs h = some (v, h') ∧ k v h' = true
theorem onL_t {l : Option (List PV)} {f : List PV → Bool} (e : onL l f = true) : ∃ x, l = some x ∧ f x = true := by
  cases l with
  | none => exact ff e
  | some x => exact ⟨x, rfl, e⟩
theorem newz_s (zs : List SV) : SndN (kNewz zs) (pNewz zs) := by
  intro xs h k e
  cases xs with
  | cons _ _ => exact ff e
  | nil =>
    obtain ⟨l, h1, e1⟩ := onL_t e
    rw [newK_eq] at e1
    exact ⟨_, _, by simp only [pNewz, h1], e1⟩
theorem bslice_s (es len : Nat) (zero : List SV) (places : List (Nat × Nat)) : SndN (kBslice es len zero places) (pBslice es len zero places) := by
  intro xs h k e
  obtain ⟨z, h1, e1⟩ := onL_t e
  obtain ⟨cs, h2, e2⟩ := onL_t e1
  rw [newK_eq] at e2
  exact ⟨_, _, by simp only [pBslice, h1, h2], e2⟩
theorem kopN_s (o : VOp) : ∃ f, kopN o = .mk f ∧ SndN f (opP o) := by
  have any : SndN (fun xs h k => dfl (opP o xs h) k) (opP o) := fun xs h k e => dfl_t e
  cases o <;> first | exact ⟨_, rfl, any⟩ | skip
  case newz zs => exact ⟨_, rfl, newz_s zs⟩
  case bslice es len z p => exact ⟨_, rfl, bslice_s es len z p⟩
theorem kop1_s (o : VOp) : ∃ f, kop1 o = .mk f ∧ Snd1 f (opP o) := by
  have any : Snd1 (fun a h k => dfl (opP o [a] h) k) (opP o) := fun a h k e => dfl_t e
  cases o <;> first | exact ⟨_, rfl, any⟩ | skip
  case load1 => exact ⟨_, rfl, load1_s⟩
  case loadn n => exact ⟨_, rfl, loadn_s n⟩
  case nilchk => exact ⟨_, rfl, nilchk_s⟩
  case faddr n => exact ⟨_, rfl, faddr_s n⟩
  case lens => exact ⟨_, rfl, lens_s⟩
  case extract n => exact ⟨_, rfl, extract_s n⟩
  case box n => exact ⟨_, rfl, box_s n⟩
  case bslice es len z p => exact ⟨_, rfl, fun a h k e => bslice_s es len z p [a] h k e⟩
  case un u => cases u <;> first | exact ⟨_, rfl, not_s⟩ | exact ⟨_, rfl, any⟩
theorem kop2_s (o : VOp) : ∃ f, kop2 o = .mk f ∧ Snd2 f (opP o) := by
  have any : Snd2 (fun a b h k => dfl (opP o [a, b] h) k) (opP o) := fun a b h k e => dfl_t e
  cases o <;> first | exact ⟨_, rfl, any⟩ | skip
  case isl n => exact ⟨_, rfl, isl_s n⟩
  case store n => exact ⟨_, rfl, store_s n⟩
  case bin b => exact bin_s b
  case append es by' => exact ⟨_, rfl, append_s es by'⟩
  case bslice es len z p => exact ⟨_, rfl, fun a b h k e => bslice_s es len z p [a, b] h k e⟩
end Go.Pv.K
end
section
namespace Go.Pv.K
open Go.Vm
open Go.Vm.Key (kn)
def FRK (fr : Fr) (pf : PFr) : Prop := ∀ k v, fr.at k = some v → pf.get k = some v
variable {fr : Fr} {pf : PFr} {h : PHeap}
theorem kArg_t (hf : FRK fr pf) {x : VX} {c : PA → Bool} (e : evalK (kArg x) fr c = true) : ∃ v, evalP pf x = some v ∧ c v = true := by
  cases x with
  | t key =>
    obtain ⟨g, p, h1, h2, _⟩ := acc_spec key
    have : kArg (.t key) = .s g := by simp only [kArg, h1]
    rw [this] at e
    have e : @Option.rec PA (fun _ => Bool) false c (g fr) = true := e
    rw [h2] at e
    cases hv : fr.at key with
    | none => rw [hv] at e; exact ff e
    | some v => rw [hv] at e; exact ⟨v, hf _ _ hv, e⟩
  | c a =>
    cases ha : ofAV a with
    | none =>
      have : kArg (.c a) = .bad := by simp only [kArg, ha]
      rw [this] at e; exact ff e
    | some v =>
      have : kArg (.c a) = .c v := by simp only [kArg, ha]
      rw [this] at e; exact ⟨v, ha, e⟩
theorem put_of {key : Key} {v : PA} {fr' : Fr} (hf : FRK fr pf) (h : ∀ j, fr'.at j = if key = j then some v else fr.at j) : FRK fr' (pf.upd key (some v)) := by
  intro j w e
  rw [h] at e
  rw [Tr.get_upd]
  split at e
  · next hk => rw [if_pos hk]; exact e
  · next hk => rw [if_neg hk]; exact hf j w e
def PutOk (p : KPut) (d : Option Key) : Prop := ∀ {fr : Fr} {pf : PFr}, FRK fr pf → ∀ {v : PA} {c : Fr → Bool}, p v fr c = true → ∃ fr', c fr' = true ∧ FRK fr' (putP pf d v)
theorem kPut_t (d : Option Key) : PutOk (kPut d) d := by
  intro fr pf hf v c e
  cases d with
  | none => exact ⟨fr, e, hf⟩
  | some key =>
    obtain ⟨g, p, h1, _, h3⟩ := acc_spec key
    have : kPut (some key) = p := by simp only [kPut, h1]
    rw [this] at e
    obtain ⟨fr', h4, h5⟩ := h3 v fr c e
    exact ⟨fr', h4, put_of hf h5⟩
theorem kPutB_t (d : Option Key) : ∃ p, kPutB d = .mk p ∧ PutOk p d := by
  cases d with
  | none => exact ⟨_, rfl, fun hf => fun {v c} e => ⟨_, e, hf⟩⟩
  | some key =>
    obtain ⟨g, p, h1, _, h3⟩ := acc_spec key
    refine ⟨p, by simp only [kPutB, h1], fun {fr pf} hf {v c} e => ?_⟩
    obtain ⟨fr', h4, h5⟩ := h3 v fr c e
    exact ⟨fr', h4, put_of hf h5⟩
theorem fetchK_t (hf : FRK fr pf) : ∀ {xs : List VX} {c : List PA → Bool}, fetchK xs fr c = true → ∃ vs, fetchP pf xs = some vs ∧ c vs = true
  | [], c, e => ⟨[], rfl, e⟩
  | x :: xs, c, e => by
    obtain ⟨v, h1, e1⟩ := kArg_t hf (x := x) (c := fun v => fetchK xs fr (fun vs => c (v :: vs))) e
    obtain ⟨vs, h2, e2⟩ := fetchK_t hf e1
    exact ⟨v :: vs, by simp only [fetchP, h1, h2], e2⟩
def CSnd (call : KCaller) (pc : PCaller) : Prop := ∀ f args h k, call f args h k = true → ∃ v h', pc f args h = some (v, h') ∧ k v h' = true
variable {call : KCaller} {pc : PCaller}
theorem actK_t (hc : CSnd call pc) {a : VAct} {args : List PA} {k : KK} (e : actK call a args h k = true) : ∃ v h', actP pc a args h = some (v, h') ∧ k v h' = true := by
  cases a with
  | op o => exact dfl_t e
  | call f => exact hc _ _ _ _ e
  | callv =>
    have e : callvK call args h k = true := e
    unfold callvK at e
    split at e
    · exact hc _ _ _ _ e
    · cases e
def OutOk (pc : PCaller) (act : VAct) (xs : List VX) (dst : Option Key) (pf : PFr) (h : PHeap) (k : Fr → PHeap → Bool) : Prop :=
  ∃ args v h' fr', fetchP pf xs = some args ∧ actP pc act args h = some (v, h') ∧ FRK fr' (putP pf dst v) ∧ k fr' h' = true
theorem oN_t (hc : CSnd call pc) (hf : FRK fr pf) {act : VAct} {xs : List VX} {dst : Option Key} {p : KPut} (hp : PutOk p dst) {k : Fr → PHeap → Bool} (e : runKO (.oN act xs p) call fr h k = true) : OutOk pc act xs dst pf h k := by
  obtain ⟨args, h3, e1⟩ := fetchK_t hf (xs := xs) (c := fun args => actK call act args h (fun v h => p v fr (fun fr => k fr h))) e
  obtain ⟨v, h', h4, e2⟩ := actK_t hc e1
  obtain ⟨fr', e3, h5⟩ := hp hf e2
  exact ⟨args, v, h', fr', h3, h4, h5, e3⟩
theorem oF_t (hf : FRK fr pf) {o : VOp} {f : KOpN} (hs : SndN f (opP o)) {xs : List VX} {dst : Option Key} {p : KPut} (hp : PutOk p dst) {k : Fr → PHeap → Bool} (e : runKO (.oF f xs p) call fr h k = true) : OutOk pc (.op o) xs dst pf h k := by
  obtain ⟨args, h3, e1⟩ := fetchK_t hf (xs := xs) (c := fun args => f args h (fun v h => p v fr (fun fr => k fr h))) e
  obtain ⟨v, h', h4, e2⟩ := hs _ _ _ e1
  obtain ⟨fr', e3, h5⟩ := hp hf e2
  exact ⟨args, v, h', fr', h3, h4, h5, e3⟩
theorem slot_t {α : Type} {g : Fr → Option α} {k : α → Bool} (e : @Option.rec α (fun _ => Bool) false k (g fr) = true) : ∃ v, g fr = some v ∧ k v = true := by
  cases h : g fr with
  | none => rw [h] at e; exact ff e
  | some v => rw [h] at e; exact ⟨v, rfl, e⟩
theorem kArg_c (hf : FRK fr pf) {x : VX} {c : PA → Bool} {g : Fr → Option PA} (hx : kArg x = .s g) (e : @Option.rec PA (fun _ => Bool) false c (g fr) = true) : ∃ v, evalP pf x = some v ∧ c v = true :=
  kArg_t hf (by rw [hx]; exact e)
theorem kArg_v (hf : FRK fr pf) {x : VX} {c : PA → Bool} {v : PA} (hx : kArg x = .c v) (e : c v = true) : ∃ v, evalP pf x = some v ∧ c v = true :=
  kArg_t hf (by rw [hx]; exact e)
theorem kAct_t (hc : CSnd call pc) (hf : FRK fr pf) {act : VAct} {xs : List VX} {dst : Option Key} {p : KPut} (hp : PutOk p dst) {k : Fr → PHeap → Bool} (e : runKO (kAct act xs p) call fr h k = true) : OutOk pc act xs dst pf h k := by
  unfold kAct at e
  split at e
  · next a =>
    cases hx : kArg a with
    | s g =>
      rw [hx] at e
      obtain ⟨v, h3, e1⟩ := kArg_c hf (c := fun v => p v fr (fun fr => k fr h)) hx e
      obtain ⟨fr', e2, h4⟩ := hp hf e1
      exact ⟨[v], v, h, fr', by simp only [fetchP, h3], rfl, h4, e2⟩
    | c v =>
      rw [hx] at e
      obtain ⟨v, h3, e1⟩ := kArg_v hf (c := fun v => p v fr (fun fr => k fr h)) hx e
      obtain ⟨fr', e2, h4⟩ := hp hf e1
      exact ⟨[v], v, h, fr', by simp only [fetchP, h3], rfl, h4, e2⟩
    | bad => rw [hx] at e; exact oN_t hc hf hp e
  · next o a _ =>
    obtain ⟨f, h3, hs⟩ := kop1_s o
    rw [h3] at e
    cases hx : kArg a with
    | s g =>
      rw [hx] at e
      obtain ⟨v, h4, e1⟩ := kArg_c hf (c := fun a => f a h (fun v h => p v fr (fun fr => k fr h))) hx e
      obtain ⟨w, h', h5, e2⟩ := hs _ _ _ e1
      obtain ⟨fr', e3, h6⟩ := hp hf e2
      exact ⟨[v], w, h', fr', by simp only [fetchP, h4], h5, h6, e3⟩
    | c v => rw [hx] at e; exact oN_t hc hf hp e
    | bad => rw [hx] at e; exact oN_t hc hf hp e
  · next o a b =>
    obtain ⟨f, h3, hs⟩ := kop2_s o
    rw [h3] at e
    have fin : ∀ {v u : PA}, evalP pf a = some v → evalP pf b = some u → f v u h (fun v h => p v fr (fun fr => k fr h)) = true → OutOk pc (.op o) [a, b] dst pf h k := by
      intro v u h4 h5 e2
      obtain ⟨w, h', h6, e3⟩ := hs _ _ _ _ e2
      obtain ⟨fr', e4, h7⟩ := hp hf e3
      exact ⟨[v, u], w, h', fr', by simp only [fetchP, h4, h5], h6, h7, e4⟩
    have gen : ∀ {x y : KArg}, kArg a = x → kArg b = y → runKO (.o2 f x y p) call fr h k = true → OutOk pc (.op o) [a, b] dst pf h k := by
      intro x y hx hy e
      subst hx; subst hy
      obtain ⟨v, h4, e1⟩ := kArg_t hf (x := a) (c := fun a => evalK (kArg b) fr (fun b => f a b h (fun v h => p v fr (fun fr => k fr h)))) e
      obtain ⟨u, h5, e2⟩ := kArg_t hf e1
      exact fin h4 h5 e2
    cases hx : kArg a with
    | s g =>
      cases hy : kArg b with
      | s g' =>
        rw [hx, hy] at e
        obtain ⟨v, h4, e1⟩ := kArg_c hf (c := fun a => @Option.rec PA (fun _ => Bool) false (fun b => f a b h (fun v h => p v fr (fun fr => k fr h))) (g' fr)) hx e
        obtain ⟨u, h5, e2⟩ := kArg_c hf hy e1
        exact fin h4 h5 e2
      | c v => rw [hx, hy] at e; exact gen hx hy e
      | bad => rw [hx, hy] at e; exact gen hx hy e
    | c v => rw [hx] at e; exact gen hx rfl e
    | bad => rw [hx] at e; exact gen hx rfl e
  · next o _ _ _ =>
    obtain ⟨f, h3, hs⟩ := kopN_s o
    rw [h3] at e
    exact oF_t hf hs hp e
  · exact oN_t hc hf hp e
theorem kOper_t (hc : CSnd call pc) (hf : FRK fr pf) {o : VOper} {k : Fr → PHeap → Bool} (e : runKO (kOper o) call fr h k = true) : OutOk pc o.act o.args o.dst pf h k := by
  obtain ⟨dst, act, xs, g⟩ := o
  obtain ⟨p, h1, hp⟩ := kPutB_t dst
  have h2 : kOper ⟨dst, act, xs, g⟩ = kAct act xs p := by simp only [kOper, h1]
  rw [h2] at e
  exact kAct_t hc hf hp e
theorem wantK_t (hf : FRK fr pf) {g : Option (Key × Bool)} {k : Bool → Bool} (e : wantK g fr k = true) : ∃ b, wantedP pf g = some b ∧ k b = true := by
  cases g with
  | none => exact ⟨true, rfl, e⟩
  | some q =>
    obtain ⟨key, b⟩ := q
    obtain ⟨v, h1, e1⟩ := kArg_t hf (x := .t key) (c := fun v => wantV v b k) e
    have h1 : pf.get key = some v := h1
    have other : (∀ c, v ≠ .v (.s (.bool c))) → k false = true → ∃ b', wantedP pf (some (key, b)) = some b' ∧ k b' = true := by
      intro hv hk
      refine ⟨false, ?_, hk⟩
      simp only [wantedP, h1]
    cases v with
    | tup l => exact other (fun c h => by cases h) e1
    | v c => cases c with
      | agg l => exact other (fun c h => by cases h) e1
      | s x =>
        cases x with
        | bool c =>
          have e3 : forceB (c == b) k = true := e1
          rw [forceB_eq] at e3
          exact ⟨c == b, by simp only [wantedP, h1], e3⟩
        | _ => exact other (fun c h => by cases h) e1
theorem kStep_t (hc : CSnd call pc) (hf : FRK fr pf) {o : VOper} {k : Fr → PHeap → Bool} (e : runKO (kStep o) call fr h k = true) : ∃ pf' h' fr', operP pc o pf h = some (pf', h') ∧ FRK fr' pf' ∧ k fr' h' = true := by
  obtain ⟨dst, act, xs, g⟩ := o
  have yes : wantedP pf g = some true → runKO (kOper ⟨dst, act, xs, g⟩) call fr h k = true → ∃ pf' h' fr', operP pc ⟨dst, act, xs, g⟩ pf h = some (pf', h') ∧ FRK fr' pf' ∧ k fr' h' = true := by
    intro hw e
    obtain ⟨args, v, h', fr', h1, h2, h3, e1⟩ := kOper_t hc hf e
    exact ⟨_, h', fr', by simp only [operP, hw, h1, h2], h3, e1⟩
  cases g with
  | none => exact yes rfl e
  | some q =>
    obtain ⟨key, b⟩ := q
    obtain ⟨p, h1, hp⟩ := kPutB_t dst
    have h2 : kStep ⟨dst, act, xs, some (key, b)⟩ = .gd key b p (kOper ⟨dst, act, xs, some (key, b)⟩) := by simp only [kStep, h1]
    rw [h2] at e
    obtain ⟨w, hw, e1⟩ := wantK_t hf (g := some (key, b)) (k := fun w => @Bool.rec (fun _ => Bool) (p .unit fr (fun fr => k fr h)) (runKO (kOper ⟨dst, act, xs, some (key, b)⟩) call fr h k) w) e
    cases w with
    | true => exact yes hw e1
    | false =>
      obtain ⟨fr', e2, h3⟩ := hp hf (v := .unit) (c := fun fr => k fr h) e1
      exact ⟨_, h, fr', by simp only [operP, hw], h3, e2⟩
theorem opsK_t (hc : CSnd call pc) : ∀ (l : List VOper) {fr : Fr} {pf : PFr} {h : PHeap} {k : Fr → PHeap → Bool}, FRK fr pf → opsK call l fr h k = true → ∃ pf' h' fr', opsP pc l pf h = some (pf', h') ∧ FRK fr' pf' ∧ k fr' h' = true
  | [], fr, pf, h, k, hf, e => ⟨pf, h, fr, rfl, hf, e⟩
  | o :: l, fr, pf, h, k, hf, e => by
    obtain ⟨pf1, h1, fr1, h2, h3, e1⟩ := kStep_t hc hf (o := o) (k := fun fr h => go (opsK call l fr h k)) e
    obtain ⟨pf2, h4, fr2, h5, h6, e2⟩ := opsK_t hc l h3 e1
    exact ⟨pf2, h4, fr2, by simp only [opsP, h2, h5], h6, e2⟩
theorem blind_rdP {o : VOp} (hb : blindP o = true) (args : List PA) : rdP o args = none ∧ rdF o args = false := by
  cases o <;> first | (simp [blindP] at hb; done) | exact ⟨rfl, rfl⟩
theorem sameP_blind (xs : List VX) (h : PHeap) : ∀ s : Snaps, sameP xs none false h s = true
  | [] => rfl
  | _ :: l => by simp [sameP, sameRd, sameP_blind xs h l]
theorem wroteQ_nil (d : Option Key) (xs : List VX) (rd : Option (Key × Option (Nat × Nat))) (h : PHeap) : wroteQ d xs rd h [] = [] := rfl
theorem onSn_t {d : Option Key} {xs : List VX} {rd : Option (Key × Option (Nat × Nat))} {s : Snaps} {k : Snaps → Bool} (e : onSn s (wroteQ d xs rd h s) k = true) : k (wroteQ d xs rd h s) = true := by
  cases s <;> exact e
theorem actKD_eff {a : VAct} (h : actKD a = .eff) : a.kind = .effect := by
  cases a with
  | call f => rfl
  | callv => rfl
  | op o =>
    show o.kind = .effect
    have h : opKD o = .eff := h
    unfold opKD at h
    split at h
    · next h1 => exact h1
    · cases h
    · split at h <;> cases h
theorem actKD_alc {a : VAct} (h : actKD a = .alc) : a.kind = .alloc := by
  cases a with
  | call f => cases h
  | callv => cases h
  | op o =>
    show o.kind = .alloc
    have h : opKD o = .alc := h
    unfold opKD at h
    split at h
    · cases h
    · next h1 => exact h1
    · split at h <;> cases h
theorem actKD_rd {a : VAct} (h : actKD a = .rd) : ∃ o, a = .op o ∧ o.kind = .quiet := by
  cases a with
  | call f => cases h
  | callv => cases h
  | op o =>
    refine ⟨o, rfl, ?_⟩
    have h : opKD o = .rd := h
    unfold opKD at h
    split at h
    · cases h
    · cases h
    · next h1 => exact h1
theorem actKD_bl {a : VAct} (h : actKD a = .bl) : ∃ o, a = .op o ∧ o.kind = .quiet ∧ blindP o = true := by
  cases a with
  | call f => cases h
  | callv => cases h
  | op o =>
    have h : opKD o = .bl := h
    unfold opKD at h
    split at h
    · cases h
    · cases h
    · next h1 =>
      split at h
      · next h2 => exact ⟨o, rfl, h1, h2⟩
      · cases h
theorem outside_none {lo hi : Key} (h : lo.toNat = hi.toNat) (rd : Option (Key × Option (Nat × Nat))) : outsideP lo hi rd = true := by
  cases rd with
  | none => rfl
  | some q =>
    simp only [outsideP, Bool.or_eq_true, Nat.blt_eq, Nat.ble_eq]
    omega
theorem drawnP_free (lo hi : Key) (n : Nat) : ∀ (l : List DOp), hasRd l = false → ∀ (r : Key) (s s' : Snaps) (pf : PFr) (h : PHeap), drawnP pc lo hi n l r s pf h = drawnP pc lo hi n l r s' pf h
  | [], _, _, _, _, _, _ => rfl
  | ⟨⟨dst, act, xs, g⟩, chk⟩ :: l, hr, r, s, s', pf, h => by
    have hr : @KD.rec (fun _ => Bool) (hasRd l) (hasRd l) true (hasRd l) (actKD act) = false := hr
    cases hk : actKD act with
    | rd => rw [hk] at hr; cases hr
    | eff =>
      rw [hk] at hr
      simp only [drawnP, actKD_eff hk]
      split
      · exact drawnP_free lo hi n l hr _ _ _ _ _
      · rfl
    | alc =>
      rw [hk] at hr
      simp only [drawnP, actKD_alc hk]
      split
      · exact drawnP_free lo hi n l hr _ _ _ _ _
      · rfl
    | bl =>
      rw [hk] at hr
      have hr1 : hasRd l = false := hr
      obtain ⟨o, rfl, ho, hb⟩ := actKD_bl hk
      have hko : (VAct.op o).kind = .quiet := ho
      simp only [drawnP, hko]
      cases hw : wantedP pf g with
      | none => rfl
      | some w =>
        cases w with
        | false => exact drawnP_free lo hi n l hr1 _ _ _ _ _
        | true =>
          simp only
          cases hf : fetchP pf xs with
          | none => rfl
          | some as =>
            simp only
            cases ho : opP o as h with
            | none => rfl
            | some q =>
              obtain ⟨v, h'⟩ := q
              obtain ⟨b1, b2⟩ := blind_rdP hb as
              simp only [b1, b2, sameP_blind]
              split
              · exact drawnP_free lo hi n l hr1 _ _ _ _ _
              · rfl
theorem drawnK_t (hc : CSnd call pc) {lo hi : Key} {n : Nat} (hn : lo.toNat + n = hi.toNat) : ∀ (l : List DOp) {r : Key} {snaps : Snaps} {fr : Fr} {pf : PFr} {h : PHeap} {k : Fr → PHeap → Bool}, FRK fr pf → drawnK call lo hi n l r snaps fr h k = true →
    ∃ pf' h' fr', drawnP pc lo hi n l r snaps pf h = some (pf', h') ∧ FRK fr' pf' ∧ k fr' h' = true
  | [], r, snaps, fr, pf, h, k, hf, e => ⟨pf, h, fr, rfl, hf, e⟩
  | ⟨⟨dst, act, xs, g⟩, chk⟩ :: l, r, snaps, fr, pf, h, k, hf, e => by
    have ih := fun {r snaps fr pf h k} => drawnK_t hc hn l (r := r) (snaps := snaps) (fr := fr) (pf := pf) (h := h) (k := k)
    have e : runKD (kD ⟨⟨dst, act, xs, g⟩, chk⟩ (hasRd l)) call lo hi n (drawnK call lo hi n l) r snaps fr h k = true := e
    obtain ⟨p, hpb, hp⟩ := kPutB_t dst
    cases hk : actKD act with
    | eff =>
      cases hneed : hasRd l with
      | false =>
        have hd : kD ⟨⟨dst, act, xs, g⟩, chk⟩ (hasRd l) = .effN (kStep ⟨dst, act, xs, g⟩) := by simp only [kD, hpb, hk, hneed]
        rw [hd] at e
        obtain ⟨pf1, h1, fr1, h2, h3, e1⟩ := kStep_t hc hf (k := fun fr h' => go (drawnK call lo hi n l r [] fr h' k)) e
        obtain ⟨pf2, h4, fr2, h5, h6, e2⟩ := ih h3 e1
        exact ⟨pf2, h4, fr2, by simp only [drawnP, actKD_eff hk, h2]; rw [drawnP_free lo hi n l hneed _ _ []]; exact h5, h6, e2⟩
      | true =>
        have hd : kD ⟨⟨dst, act, xs, g⟩, chk⟩ (hasRd l) = .eff (kStep ⟨dst, act, xs, g⟩) dst := by simp only [kD, hpb, hk, hneed]
        rw [hd] at e
        obtain ⟨pf1, h1, fr1, h2, h3, e1⟩ := kStep_t hc hf (k := fun fr h' => go (drawnK call lo hi n l r (wrote dst (snaps ++ [(h, [])])) fr h' k)) e
        obtain ⟨pf2, h4, fr2, h5, h6, e2⟩ := ih h3 e1
        exact ⟨pf2, h4, fr2, by simp only [drawnP, actKD_eff hk, h2, h5], h6, e2⟩
    | alc =>
      obtain ⟨mem, next⟩ := h
      cases hneed : hasRd l with
      | false =>
        have hd : kD ⟨⟨dst, act, xs, g⟩, chk⟩ (hasRd l) = .alcN (kStep ⟨dst, act, xs, g⟩) := by simp only [kD, hpb, hk, hneed]
        rw [hd] at e
        obtain ⟨pf1, ⟨mem1, next1⟩, fr1, h2, h3, e1⟩ := kStep_t hc hf (h := ⟨mem, r⟩) (k := fun fr h' => @PHeap.rec (fun _ => Bool) (fun mem _ => succK r (fun r => go (drawnK call lo hi n l r [] fr ⟨mem, next⟩ k))) h') e
        simp only [succK_eq] at e1
        obtain ⟨pf2, h4, fr2, h5, h6, e2⟩ := ih h3 e1
        exact ⟨pf2, h4, fr2, by simp only [drawnP, actKD_alc hk, h2]; rw [drawnP_free lo hi n l hneed _ _ []]; exact h5, h6, e2⟩
      | true =>
        have hd : kD ⟨⟨dst, act, xs, g⟩, chk⟩ (hasRd l) = .alc (kStep ⟨dst, act, xs, g⟩) dst := by simp only [kD, hpb, hk, hneed]
        rw [hd] at e
        obtain ⟨pf1, ⟨mem1, next1⟩, fr1, h2, h3, e1⟩ := kStep_t hc hf (h := ⟨mem, r⟩) (k := fun fr h' => @PHeap.rec (fun _ => Bool) (fun mem _ => succK r (fun r => go (drawnK call lo hi n l r (wrote dst snaps) fr ⟨mem, next⟩ k))) h') e
        simp only [succK_eq] at e1
        obtain ⟨pf2, h4, fr2, h5, h6, e2⟩ := ih h3 e1
        exact ⟨pf2, h4, fr2, by simp only [drawnP, actKD_alc hk, h2, h5], h6, e2⟩
    | rd =>
      obtain ⟨o, rfl, ho⟩ := actKD_rd hk
      have hko : (VAct.op o).kind = .quiet := ho
      have hd : kD ⟨⟨dst, .op o, xs, g⟩, chk⟩ (hasRd l) = .rd (kOper ⟨dst, .op o, xs, g⟩) p dst g o xs chk := by simp only [kD, hpb, hk]
      rw [hd] at e
      obtain ⟨w, hw, e1⟩ := wantK_t hf (k := fun w => @Bool.rec (fun _ => Bool)
        (p .unit fr (fun fr => go (drawnK call lo hi n l r snaps fr h k)))
        (fetchK xs fr (fun as => ite' (checkK lo hi n o as xs h (snaps.drop chk))
          (runKO (kOper ⟨dst, .op o, xs, g⟩) call fr h (fun fr _ => onSn snaps (wroteQ dst xs (rdP o as) h snaps) (fun s => go (drawnK call lo hi n l r s fr h k)))) false)) w) e
      cases w with
      | false =>
        obtain ⟨fr1, e2, h1⟩ := hp hf (v := .unit) (c := fun fr => go (drawnK call lo hi n l r snaps fr h k)) e1
        obtain ⟨pf2, h4, fr2, h5, h6, e3⟩ := ih h1 e2
        exact ⟨pf2, h4, fr2, by simp only [drawnP, hko, hw, h5], h6, e3⟩
      | true =>
        obtain ⟨as, h1, e2⟩ := fetchK_t hf (xs := xs) e1
        obtain ⟨hcond, e3⟩ := ite_f e2
        obtain ⟨as', v, h', fr1, h2, h3, h4, e4⟩ := kOper_t hc hf e3
        simp only at h2 h3 h4
        rw [h1] at h2; cases h2
        have e5 := onSn_t e4
        have h3 : opP o as h = some (v, h') := h3
        have hcheck : (outsideP lo hi (rdP o as) && (!rdF o as || noFrz h lo n) && sameP xs (rdP o as) (rdF o as) h (snaps.drop chk)) = true := by
          cases hs : snaps.drop chk with
          | cons a b => rw [hs] at hcond; exact hcond
          | nil =>
            rw [hs] at hcond
            have hcond : ite' (Nat.beq n 0) true (outsideP lo hi (rdP o as) && (!rdF o as || noFrz h lo n)) = true := hcond
            simp only [sameP, Bool.and_true]
            rcases ite_t hcond with ⟨h0, _⟩ | ⟨_, h0⟩
            · rw [Nat.beq_eq] at h0
              subst h0
              rw [outside_none (by omega)]
              simp [noFrz]
            · exact h0
        obtain ⟨pf2, h5, fr2, h6, h7, e6⟩ := ih h4 e5
        exact ⟨pf2, h5, fr2, by simp only [drawnP, hko, hw, h1, h3, hcheck, if_true, h6], h7, e6⟩
    | bl =>
      obtain ⟨o, rfl, ho, hb⟩ := actKD_bl hk
      have hko : (VAct.op o).kind = .quiet := ho
      cases hneed : hasRd l with
      | false =>
        have hd : kD ⟨⟨dst, .op o, xs, g⟩, chk⟩ (hasRd l) = .blN (kStep ⟨dst, .op o, xs, g⟩) := by simp only [kD, hpb, hk, hneed]
        rw [hd] at e
        obtain ⟨pf1, h1, fr1, h2, h3, e1⟩ := kStep_t hc hf (k := fun fr _ => go (drawnK call lo hi n l r [] fr h k)) e
        obtain ⟨pf2, h4, fr2, h5, h6, e2⟩ := ih h3 e1
        refine ⟨pf2, h4, fr2, ?_, h6, e2⟩
        simp only [operP] at h2
        simp only [drawnP, hko]
        cases hw : wantedP pf g with
        | none => rw [hw] at h2; cases h2
        | some w =>
          rw [hw] at h2
          cases w with
          | false =>
            simp only [Option.some.injEq, Prod.mk.injEq] at h2 ⊢
            obtain ⟨rfl, rfl⟩ := h2
            rw [drawnP_free lo hi n l hneed _ _ []]; exact h5
          | true =>
            simp only at h2 ⊢
            cases hfe : fetchP pf xs with
            | none => rw [hfe] at h2; cases h2
            | some as =>
              rw [hfe] at h2
              simp only at h2 ⊢
              cases hop : actP pc (.op o) as h with
              | none => rw [hop] at h2; cases h2
              | some q =>
                obtain ⟨v, h'⟩ := q
                rw [hop] at h2
                simp only [Option.some.injEq, Prod.mk.injEq] at h2
                obtain ⟨rfl, rfl⟩ := h2
                have hop : opP o as h = some (v, h') := hop
                obtain ⟨b1, b2⟩ := blind_rdP hb as
                simp only [hop, b1, b2, sameP_blind, outsideP, Bool.not_false, Bool.true_or, Bool.and_self, if_true]
                rw [drawnP_free lo hi n l hneed _ _ []]; exact h5
      | true =>
      have hd : kD ⟨⟨dst, .op o, xs, g⟩, chk⟩ (hasRd l) = .bl (kOper ⟨dst, .op o, xs, g⟩) p dst g xs := by simp only [kD, hpb, hk, hneed]
      rw [hd] at e
      obtain ⟨w, hw, e1⟩ := wantK_t hf (k := fun w => @Bool.rec (fun _ => Bool)
        (p .unit fr (fun fr => go (drawnK call lo hi n l r snaps fr h k)))
        (runKO (kOper ⟨dst, .op o, xs, g⟩) call fr h (fun fr _ => onSn snaps (wroteQ dst xs none h snaps) (fun s => go (drawnK call lo hi n l r s fr h k)))) w) e
      cases w with
      | false =>
        obtain ⟨fr1, e2, h1⟩ := hp hf (v := .unit) (c := fun fr => go (drawnK call lo hi n l r snaps fr h k)) e1
        obtain ⟨pf2, h4, fr2, h5, h6, e3⟩ := ih h1 e2
        exact ⟨pf2, h4, fr2, by simp only [drawnP, hko, hw, h5], h6, e3⟩
      | true =>
        obtain ⟨as, v, h', fr1, h2, h3, h4, e4⟩ := kOper_t hc hf e1
        simp only at h2 h3 h4
        have e5 := onSn_t e4
        have h3 : opP o as h = some (v, h') := h3
        obtain ⟨pf2, h5, fr2, h6, h7, e6⟩ := ih h4 e5
        obtain ⟨b1, b2⟩ := blind_rdP hb as
        have hcheck : (outsideP lo hi (rdP o as) && (!rdF o as || noFrz h lo n) && sameP xs (rdP o as) (rdF o as) h (snaps.drop chk)) = true := by
          rw [b1, b2, sameP_blind]; rfl
        exact ⟨pf2, h5, fr2, by simp only [drawnP, hko, hw, h2, h3, hcheck, if_true]; rw [b1, h6], h7, e6⟩
end Go.Pv.K
end
section
namespace Go.Pv.K
open Go.Vm
open Go.Vm.Key (kn)
variable {F : Funcs} {K : Known} {fr : Fr} {pf : PFr} {h : PHeap}
def XSnd (ex : KEx) (px : PEx) : Prop := ∀ (c : VCode) {fr : Fr} {pf : PFr} {h : PHeap} {k : KX}, FRK fr pf → ex c fr h k = true → ∃ x pf' h' fr', px c pf h = some (x, pf', h') ∧ FRK fr' pf' ∧ k x fr' h' = true
theorem resK_t (hf : FRK fr pf) : ∀ {l : List VRes} {k : List PC → Bool}, resK fr h l k = true → ∃ xs, resultsP pf h l = some xs ∧ k xs = true
  | [], k, e => ⟨[], rfl, e⟩
  | r :: l, k, e => by
    cases r with
    | tmp key =>
      obtain ⟨v, h1, e1⟩ := kArg_t hf (x := .t key) (c := fun v => @PA.rec (fun _ => Bool) (fun x => resK fr h l (fun l => k (x :: l))) (fun _ => false) v) e
      cases v with
      | tup _ => exact ff e1
      | v x =>
        obtain ⟨xs, h2, e2⟩ := resK_t hf (l := l) (k := fun l => k (x :: l)) e1
        have h1 : pf.get key = some (.v x) := h1
        exact ⟨x :: xs, by simp only [resultsP, resultP, h1, h2], e2⟩
    | cell1 key =>
      obtain ⟨v, h1, e1⟩ := kArg_t hf (x := .t key) (c := fun v => onV v fun x => onPtr x (fun b o => onCells h b (nthK (fun y => resK fr h l (fun l => k (.s y :: l))) o)) (fun _ => false) false) e
      obtain ⟨x, rfl, e2⟩ := onV_t e1
      rcases onPtr_f e2 with ⟨b, o, rfl, e3⟩ | ⟨_, rfl, e3⟩
      · obtain ⟨c, h2, e4⟩ := onCells_t e3
        obtain ⟨y, h3, e5⟩ := nthK_t e4
        obtain ⟨xs, h4, e6⟩ := resK_t hf (l := l) (k := fun l => k (.s y :: l)) e5
        have hlt := (List.getElem?_eq_some_iff.1 h3).1
        have hr := read_cells h2 (o := o) (n := 1) (by omega)
        have : (c.drop o).take 1 = [y] := by
          rw [List.drop_eq_getElem_cons hlt]
          simp [(List.getElem?_eq_some_iff.1 h3).2]
        rw [this] at hr
        have h1 : pf.get key = some (.v (.s (.ptr b o))) := h1
        exact ⟨.s y :: xs, by simp only [resultsP, resultP, h1, hr, h4], e6⟩
      · exact ff e3
    | celln key n =>
      obtain ⟨v, h1, e1⟩ := kArg_t hf (x := .t key) (c := fun v => onV v fun x => onPtr x (fun b o => onCells h b (dropK (fun c => takeK n c (fun r => resK fr h l (fun l => k (.agg r :: l)))) o)) (fun _ => false) false) e
      obtain ⟨x, rfl, e2⟩ := onV_t e1
      rcases onPtr_f e2 with ⟨b, o, rfl, e3⟩ | ⟨_, rfl, e3⟩
      · obtain ⟨c, h2, e4⟩ := onCells_t e3
        obtain ⟨h3, e5⟩ := dropK_t e4
        obtain ⟨h4, e6⟩ := takeK_t e5
        obtain ⟨xs, h5, e7⟩ := resK_t hf (l := l) (k := fun l => k (.agg ((c.drop o).take n) :: l)) e6
        have hr := read_cells h2 (o := o) (n := n) (by simp at h4; omega)
        have h1 : pf.get key = some (.v (.s (.ptr b o))) := h1
        exact ⟨.agg ((c.drop o).take n) :: xs, by simp only [resultsP, resultP, h1, hr, h5], e7⟩
      · exact ff e3
theorem entryK_t : ∀ {args : List PA} {i : Nat} {fr : Fr} {pf : PFr} {k : Fr → Bool}, FRK fr pf → entryK args (kn i) fr k = true → ∃ fr', FRK fr' (pf.putFrom i args) ∧ k fr' = true
  | [], i, fr, pf, k, hf, e => ⟨fr, hf, e⟩
  | v :: args, i, fr, pf, k, hf, e => by
    obtain ⟨g, p, h1, _, h3⟩ := acc_spec (kn i)
    have e : @Acc.rec (fun _ => Bool) (fun _ p => p v fr (fun fr => succK (kn i) (fun n => entryK args n fr k))) (acc (kn i)) = true := e
    rw [h1] at e
    obtain ⟨fr1, e1, h4⟩ := h3 v fr _ e
    rw [succK_eq] at e1
    exact entryK_t (i := i + 1) (put_of hf h4) e1
theorem bodyK_t {ex : KEx} {px : PEx} (hx : XSnd ex px) : CSnd (bodyK F ex) (bodyP F px) := by
  intro f args h k e
  unfold bodyK at e
  cases hF : F f with
  | none => rw [hF] at e; exact ff e
  | some vf =>
    rw [hF] at e
    obtain ⟨results, body⟩ := vf
    obtain ⟨fr1, h1, e1⟩ := entryK_t (i := 0) (pf := Tr.z) (fr := Fr.empty) (k := fun fr => go (ex body fr h (fun x fr h =>
      @VExit.rec (fun _ => Bool) (resK fr h results (fun l => k (oneOrTupP l) h)) (fun _ => false) (resK fr h results (fun l => k (oneOrTupP l) h)) x))) (fun j w hw => by rw [empty_at] at hw; cases hw) e
    obtain ⟨x, pf2, h2, fr2, h3, h4, e2⟩ := hx body h1 e1
    cases x with
    | normal =>
      obtain ⟨xs, h5, e3⟩ := resK_t h4 e2
      exact ⟨_, h2, by simp only [bodyP, hF, h3, h5], e3⟩
    | exit i => exact ff e2
    | ret =>
      obtain ⟨xs, h5, e3⟩ := resK_t h4 e2
      exact ⟨_, h2, by simp only [bodyP, hF, h3, h5], e3⟩
theorem frzAK_t {a : PA} {k : PA → Bool} (e : frzAK a h k = true) : ∃ r g, frzA deep a h = some (r, g) ∧ k r = true := by
  unfold frzAK at e
  cases hf : frzA deep a h with
  | none => rw [hf] at e; exact ff e
  | some p =>
    obtain ⟨r, g⟩ := p
    rw [hf] at e
    have e : forceA r k = true := e
    rw [forceA_eq] at e
    exact ⟨r, g, rfl, e⟩
theorem aloneK_t {ex : KEx} {px : PEx} (hx : XSnd ex px) {f : Nat} {xs : List PA} {k : PA → Bool} (e : aloneK F ex f xs k = true) : ∃ r, aloneP F px f xs = some r ∧ k r = true := by
  obtain ⟨v, g, h1, e1⟩ := bodyK_t (F := F) hx f xs .empty (fun r g => frzAK r g (fun r => k r)) e
  obtain ⟨r, g', h2, e2⟩ := frzAK_t e1
  exact ⟨r, by simp only [aloneP, h1, h2], e2⟩
theorem callK_t {ex : KEx} {px : PEx} (hx : XSnd ex px) : CSnd (callK F K ex) (callP F K px) := by
  intro f args h k e
  unfold callK at e
  cases hp : K.pure f with
  | false =>
    rw [hp] at e
    obtain ⟨v, h', h1, e1⟩ := bodyK_t (F := F) hx f args h k e
    exact ⟨v, h', by simp only [callP, hp]; exact h1, e1⟩
  | true =>
    rw [hp] at e
    have e : frzAsK args h (fun xs h => @Option.rec PA (fun _ => Bool) (aloneK F ex f xs (fun r => go (k r h))) (fun r => k r h) (K.ans f xs)) = true := e
    unfold frzAsK at e
    cases hz : frzAs deep args h with
    | none => rw [hz] at e; exact ff e
    | some q =>
      obtain ⟨xs, ⟨m, n⟩⟩ := q
      rw [hz] at e
      have e : @Option.rec PA (fun _ => Bool) (aloneK F ex f xs (fun r => go (k r ⟨m, n⟩))) (fun r => k r ⟨m, n⟩) (K.ans f xs) = true := e
      cases ha : K.ans f xs with
      | some r => rw [ha] at e; exact ⟨r, ⟨m, n⟩, by simp only [callP, hp, if_true, hz, ha], e⟩
      | none =>
        rw [ha] at e
        obtain ⟨r, h1, e1⟩ := aloneK_t (F := F) hx (k := fun r => go (k r ⟨m, n⟩)) e
        exact ⟨r, ⟨m, n⟩, by simp only [callP, hp, if_true, hz, ha, h1], e1⟩
theorem nAllocK_eq : ∀ l : List DOp, nAllocK l = nAlloc l
  | [] => rfl
  | ⟨⟨dst, act, xs, g⟩, chk⟩ :: l => by
    have ih := nAllocK_eq l
    have e : nAllocK (⟨⟨dst, act, xs, g⟩, chk⟩ :: l) = @KD.rec (fun _ => Nat) (nAllocK l) (Nat.add (nAllocK l) 1) (nAllocK l) (nAllocK l) (actKD act) := rfl
    rw [e, nAlloc_cons]
    cases hk : actKD act with
    | eff => simp [actKD_eff hk, ih]
    | alc =>
      simp only [actKD_alc hk, if_true]
      show Nat.add (nAllocK l) 1 = _
      rw [ih, Nat.add_comm]
    | rd => obtain ⟨o, rfl, ho⟩ := actKD_rd hk; simp [VAct.kind, ho, ih]
    | bl => obtain ⟨o, rfl, ho, _⟩ := actKD_bl hk; simp [VAct.kind, ho, ih]
theorem succsK_eq : ∀ (n : Nat) (x : Key) (k : Key → Bool), succsK n x k = k (succs x n)
  | 0, _, _ => rfl
  | n + 1, x, k => by
    show succK x (fun x => succsK n x k) = _
    rw [succK_eq, succsK_eq n]; rfl
theorem execK_t : ∀ n, XSnd (execK (callK F K) n) (execP F K n)
  | 0 => by intro c fr pf h k hf e; exact ff e
  | n + 1 => by
    have ih := execK_t n
    have hc := callK_t (F := F) (K := K) ih
    intro c fr pf h k hf e
    cases c with
    | skip => exact ⟨_, pf, h, fr, rfl, hf, e⟩
    | region ops =>
      obtain ⟨pf1, h1, fr1, h2, h3, e1⟩ := opsK_t hc ops (k := fun fr h => go (k .normal fr h)) hf e
      exact ⟨_, pf1, h1, fr1, by rw [exP_region, h2], h3, e1⟩
    | drawn ds =>
      obtain ⟨mem, next⟩ := h
      have e : succsK (nAllocK ds) next (fun hi => drawnK (callK F K (execK (callK F K) n)) next hi (nAllocK ds) ds next [] fr ⟨mem, hi⟩ (fun fr h => go (k .normal fr h))) = true := e
      rw [succsK_eq, nAllocK_eq] at e
      obtain ⟨pf1, h1, fr1, h2, h3, e1⟩ := drawnK_t hc (succs_toNat _ _).symm ds hf e
      exact ⟨_, pf1, h1, fr1, by rw [exP_drawn]; simp only [h2], h3, e1⟩
    | seq a b =>
      obtain ⟨x, pf1, h1, fr1, h2, h3, e1⟩ := ih a (k := fun x fr h => @VExit.rec (fun _ => Bool) (go (execK (callK F K) n b fr h k)) (fun i => k (.exit i) fr h) (k .ret fr h) x) hf e
      cases x with
      | normal =>
        obtain ⟨x, pf2, h4, fr2, h5, h6, e2⟩ := ih b (k := k) h3 e1
        exact ⟨x, pf2, h4, fr2, by rw [exP_seq, h2]; exact h5, h6, e2⟩
      | exit i => exact ⟨_, pf1, h1, fr1, by rw [exP_seq, h2], h3, e1⟩
      | ret => exact ⟨_, pf1, h1, fr1, by rw [exP_seq, h2], h3, e1⟩
    | cond x a b =>
      obtain ⟨v, h1, e1⟩ := kArg_t hf (x := x) (c := fun v => onV v fun x => onBool x fun t => @Bool.rec (fun _ => Bool) (go (execK (callK F K) n b fr h k)) (go (execK (callK F K) n a fr h k)) t) e
      obtain ⟨y, rfl, e2⟩ := onV_t e1
      obtain ⟨t, rfl, e3⟩ := onBool_t e2
      cases t with
      | true =>
        obtain ⟨x, pf2, h4, fr2, h5, h6, e4⟩ := ih a (k := k) hf e3
        exact ⟨x, pf2, h4, fr2, by rw [exP_cond, h1]; exact h5, h6, e4⟩
      | false =>
        obtain ⟨x, pf2, h4, fr2, h5, h6, e4⟩ := ih b (k := k) hf e3
        exact ⟨x, pf2, h4, fr2, by rw [exP_cond, h1]; exact h5, h6, e4⟩
    | block id a =>
      obtain ⟨x, pf1, h1, fr1, h2, h3, e1⟩ := ih a (k := fun x fr h => @VExit.rec (fun _ => Bool) (k .normal fr h) (fun j => @Bool.rec (fun _ => Bool) (k (.exit j) fr h) (k .normal fr h) (Nat.beq j id)) (k .ret fr h) x) hf e
      cases x with
      | normal => exact ⟨_, pf1, h1, fr1, by rw [exP_block, h2], h3, e1⟩
      | exit j =>
        have e1 : @Bool.rec (fun _ => Bool) (k (.exit j) fr1 h1) (k .normal fr1 h1) (Nat.beq j id) = true := e1
        cases hj : Nat.beq j id with
        | true => rw [hj] at e1; rw [Nat.beq_eq] at hj; exact ⟨_, pf1, h1, fr1, by rw [exP_block, h2]; simp only [hj, if_true], h3, e1⟩
        | false =>
          rw [hj] at e1
          have hne : j ≠ id := by rintro rfl; simp at hj
          exact ⟨_, pf1, h1, fr1, by rw [exP_block, h2]; simp only [hne, if_false], h3, e1⟩
      | ret => exact ⟨_, pf1, h1, fr1, by rw [exP_block, h2], h3, e1⟩
    | loop a =>
      obtain ⟨x, pf1, h1, fr1, h2, h3, e1⟩ := ih a (k := fun x fr h => @VExit.rec (fun _ => Bool) (go (execK (callK F K) n (.loop a) fr h k)) (fun i => k (.exit i) fr h) (k .ret fr h) x) hf e
      cases x with
      | normal =>
        obtain ⟨x, pf2, h4, fr2, h5, h6, e2⟩ := ih (.loop a) (k := k) h3 e1
        exact ⟨x, pf2, h4, fr2, by rw [exP_loop, h2]; exact h5, h6, e2⟩
      | exit i => exact ⟨_, pf1, h1, fr1, by rw [exP_loop, h2], h3, e1⟩
      | ret => exact ⟨_, pf1, h1, fr1, by rw [exP_loop, h2], h3, e1⟩
    | exit id => exact ⟨_, pf, h, fr, rfl, hf, e⟩
    | ret => exact ⟨_, pf, h, fr, rfl, hf, e⟩
theorem runK_t {n f : Nat} {xs : List PA} {k : PA → Bool} (e : runK F K n f xs k = true) : ∃ r, runP F K n f xs = some r ∧ k r = true := aloneK_t (execK_t n) e
end Go.Pv.K
end
section
namespace Go.Pv.K
open Go.Vm
open Go.Vm.Key (kn)
theorem eqNs_t : ∀ {l m : List Nat}, eqNs l m = true → l = m
  | [], [], _ => rfl
  | [], _ :: _, e => ff e
  | _ :: _, [], e => ff e
  | a :: l, b :: m, e => by
    obtain ⟨h1, h2⟩ := ite_f (c := Nat.beq a b) (a := eqNs l m) e
    rw [Nat.beq_eq] at h1
    rw [h1, eqNs_t h2]
theorem eqI_t {a b : Int} (e : eqI a b = true) : a = b := by
  cases a with
  | ofNat m => cases b with
    | ofNat n => have e : Nat.beq m n = true := e; rw [Nat.beq_eq] at e; rw [e]
    | negSucc n => exact ff e
  | negSucc m => cases b with
    | ofNat n => exact ff e
    | negSucc n => have e : Nat.beq m n = true := e; rw [Nat.beq_eq] at e; rw [e]
theorem eqK_t {a b : IntKind} (e : eqK a b = true) : a = b := by
  cases a <;> cases b <;> first | rfl | exact ff e
theorem eqB_t {a b : Bool} (e : eqB a b = true) : a = b := by
  cases a <;> cases b <;> first | rfl | exact ff e
mutual
theorem eqV_t : ∀ (x : PV) {y : PV}, eqV x y = true → x = y
  | .bool b, y, e => by cases y with
    | bool c => rw [eqB_t (a := b) (b := c) e]
    | _ => exact ff e
  | .int k n, y, e => by cases y with
    | int k' m =>
      obtain ⟨h1, h2⟩ := ite_f (c := eqK k k') (a := eqI n m) e
      rw [eqK_t h1, eqI_t h2]
    | _ => exact ff e
  | .str l, y, e => by cases y with
    | str m => rw [eqNs_t (l := l) (m := m) e]
    | _ => exact ff e
  | .ptr _ _, y, e => ff e
  | .nilp, y, e => by cases y with
    | nilp => rfl
    | _ => exact ff e
  | .slice _ _ _ _ _, y, e => ff e
  | .nils, y, e => by cases y with
    | nils => rfl
    | _ => exact ff e
  | .map _, y, e => ff e
  | .nilm, y, e => by cases y with
    | nilm => rfl
    | _ => exact ff e
  | .func _ _ _, y, e => ff e
  | .nilf, y, e => by cases y with
    | nilf => rfl
    | _ => exact ff e
  | .lst es l cap, y, e => by cases y with
    | lst es' l' cap' =>
      obtain ⟨h1, h2⟩ := ite_f (c := Nat.beq es es') e
      rw [Nat.beq_eq] at h1
      cases cap with
      | some _ => exact ff h2
      | none => cases cap' with
        | some _ => exact ff h2
        | none => rw [h1, eqLL_t l h2]
    | _ => exact ff e
  | .rp l, y, e => by cases y with
    | rp l' => rw [eqVs_t l (m := l') e]
    | _ => exact ff e
theorem eqLL_t : ∀ (l : List (List PV)) {m : List (List PV)}, eqLL l m = true → l = m
  | [], m, e => by cases m with
    | nil => rfl
    | cons _ _ => exact ff e
  | a :: l, m, e => by cases m with
    | nil => exact ff e
    | cons b m =>
      obtain ⟨h1, h2⟩ := ite_f (c := eqVs a b) (a := eqLL l m) e
      rw [eqVs_t a h1, eqLL_t l h2]
theorem eqVs_t : ∀ (l : List PV) {m : List PV}, eqVs l m = true → l = m
  | [], m, e => by cases m with
    | nil => rfl
    | cons _ _ => exact ff e
  | a :: l, m, e => by cases m with
    | nil => exact ff e
    | cons b m =>
      obtain ⟨h1, h2⟩ := ite_f (c := eqV a b) (a := eqVs l m) e
      rw [eqV_t a h1, eqVs_t l h2]
end
theorem eqC_t {x y : PC} (e : eqC x y = true) : x = y := by
  cases x with
  | s a => cases y with
    | s b => rw [eqV_t a (y := b) e]
    | agg _ => exact ff e
  | agg l => cases y with
    | s _ => exact ff e
    | agg m => rw [eqVs_t l (m := m) e]
theorem eqCs_t : ∀ {l m : List PC}, eqCs l m = true → l = m
  | [], [], _ => rfl
  | [], _ :: _, e => ff e
  | _ :: _, [], e => ff e
  | a :: l, b :: m, e => by
    obtain ⟨h1, h2⟩ := ite_f (c := eqC a b) (a := eqCs l m) e
    rw [eqC_t h1, eqCs_t h2]
theorem eqA_t {x y : PA} (e : eqA x y = true) : x = y := by
  cases x with
  | v a => cases y with
    | v b => rw [eqC_t (x := a) (y := b) e]
    | tup _ => exact ff e
  | tup l => cases y with
    | v _ => exact ff e
    | tup m => rw [eqCs_t (l := l) (m := m) e]
theorem eqAs_t : ∀ {l m : List PA}, eqAs l m = true → l = m
  | [], [], _ => rfl
  | [], _ :: _, e => ff e
  | _ :: _, [], e => ff e
  | a :: l, b :: m, e => by
    obtain ⟨h1, h2⟩ := ite_f (c := eqA a b) (a := eqAs l m) e
    rw [eqA_t h1, eqAs_t h2]
theorem getT_eq {α : Type} : ∀ (k : Key) (t : Tr α), getT k t = t.get k
  | .h, .z => rfl
  | .h, .n _ _ _ => rfl
  | .o k, .z => rfl
  | .o k, .n l _ _ => getT_eq k l
  | .i k, .z => rfl
  | .i k, .n _ _ r => getT_eq k r
theorem findE_t {xs : List PA} {r : PA} : ∀ {l : Ent}, findE xs l = some r → (xs, r) ∈ l
  | [], e => by cases e
  | (ys, r') :: l, e => by
    have e : @Bool.rec (fun _ => Option PA) (findE xs l) (some r') (eqAs xs ys) = some r := e
    cases h : eqAs xs ys with
    | true => rw [h] at e; cases e; rw [eqAs_t h]; exact List.mem_cons_self
    | false => rw [h] at e; exact List.mem_cons_of_mem _ (findE_t e)
def AllT {α : Type} (P : Key → α → Prop) : Tr α → Prop
  | .z => True
  | .n l v r => AllT (fun k => P (.o k)) l ∧ (∀ x, v = some x → P .h x) ∧ AllT (fun k => P (.i k)) r
theorem AllT.get {α : Type} : ∀ {P : Key → α → Prop} {t : Tr α}, AllT P t → ∀ (k : Key) (x : α), t.get k = some x → P k x
  | P, .z, _, k, x, e => by simp at e
  | P, .n l v r, h, .h, x, e => h.2.1 x e
  | P, .n l v r, h, .o k, x, e => h.1.get k x e
  | P, .n l v r, h, .i k, x, e => h.2.2.get k x e
theorem AllT.mono {α : Type} : ∀ {P Q : Key → α → Prop} {t : Tr α}, AllT P t → (∀ k x, P k x → Q k x) → AllT Q t
  | P, Q, .z, _, _ => trivial
  | P, Q, .n l v r, h, hq => ⟨h.1.mono fun k x => hq _ x, fun x e => hq _ x (h.2.1 x e), h.2.2.mono fun k x => hq _ x⟩
def EntOk (F : Funcs) (f : Nat) (l : Ent) : Prop := ∀ e ∈ l, AloneOk F f e.1 e.2
theorem EntOk.nil (F : Funcs) (f : Nat) : EntOk F f [] := fun _ h => by cases h
theorem EntOk.cons {F : Funcs} {f : Nat} {xs : List PA} {r : PA} {l : Ent} (h : AloneOk F f xs r) (h' : EntOk F f l) : EntOk F f ((xs, r) :: l) := by
  intro e he
  rcases List.mem_cons.1 he with rfl | he
  · exact h
  · exact h' e he
theorem EntOk.append {F : Funcs} {f : Nat} {l l' : Ent} (h : EntOk F f l) (h' : EntOk F f l') : EntOk F f (l ++ l') := by
  intro e he
  rcases List.mem_append.1 he with he | he
  · exact h e he
  · exact h' e he
def TabOk (F : Funcs) (tab : Tr Ent) : Prop := AllT (fun k l => EntOk F k.toNat l) tab
theorem known_ok {F : Funcs} {pure : Tr Bool} {tab : Tr Ent} (h : TabOk F tab) : KnownOk F (known pure tab) := by
  intro f xs r _ ha
  simp only [known, getT_eq] at ha
  cases hl : tab.get (kn f) with
  | none => rw [hl] at ha; cases ha
  | some l =>
    rw [hl] at ha
    have := h.get (kn f) l hl (xs, r) (findE_t ha)
    rwa [Key.toNat_kn] at this
theorem entry {F : Funcs} {pure : Tr Bool} {tab : Tr Ent} (h : TabOk F tab) {n f : Nat} {xs : List PA} {r : PA} (e : runK F (known pure tab) n f xs (fun v => eqA v r) = true) : AloneOk F f xs r := by
  obtain ⟨v, h1, h2⟩ := runK_t e
  rw [← eqA_t h2]
  exact run_ok (known_ok h) h1
end Go.Pv.K
end
section
namespace Go.Pv
open Go.Vm
open Go.Vm.Key (kn)
structure Left (w w' : World) : Prop where
  kept : w.keptBut w' (fun _ => False)
  frozen : ∀ a : Addr, a.block < w.heap.size → w'.frozen? a = w.frozen? a
  size : w.heap.size ≤ w'.heap.size
theorem noO_ok (P : Program) : OracleOk P noO where
  call := ⟨fun f args h r e => (by cases e), fun f args h v h' _ e => (by cases e)⟩
  nice f g e := by cases e
  keep f g e := by cases e
theorem left_of_ext {φ φ' : Emb} {nx nx' : Nat} {g : Mem} {w w' : World} (e : Ext φ (fun _ => none) nx w φ' g nx' w') : Left w w' := by
  have hs : ∀ i, i < w.heap.size → w'.heap[i]? = w.heap[i]? := fun i hi => by
    obtain ⟨o, ho⟩ : ∃ o, w.heap[i]? = some o := ⟨w.heap[i], by simp [hi]⟩
    rw [ho]
    exact e.frame i o ho fun b x l h => by cases h
  refine ⟨⟨e.os.1, e.os.2, fun i hi => ?_⟩, fun a ha => ?_, e.size⟩
  · rw [hs i hi]
    cases h : w.heap[i]? with
    | none => rfl
    | some o => cases o <;> first | exact ⟨rfl, rfl, rfl, fun _ _ => rfl⟩ | exact .inr ⟨rfl, rfl⟩ | rfl
  · simp only [World.frozen?, hs a.block ha]
theorem calls_of {P : Program} (hm : P.follows .mixedOrders = true) {F : Funcs} (hF : ∀ f vf, F f = some vf → funcsOf P f = some vf) {f : Nat} {k : IntKind} {n : Int} {b : Bool} (h : AloneOk F f [.v (.s (.int k n))] (.v (.s (.bool b)))) (w : World) :
    Calls P f #[.int k n] w fun e w' => e = .returned (.bool b) ∧ Left w w' := by
  have hg : Good ⟨fun _ => none, fun _ => none, .empty, ⟨.z, .h⟩⟩ := by
    refine ⟨⟨fun _ _ _ h => (by cases h), fun k x h => ?_, fun _ _ h => (by cases h), fun _ _ h => (by cases h)⟩, ⟨fun _ _ h => (by cases h), fun _ _ h => (by cases h), fun b _ => ?_⟩⟩
    · simp [PHeap.get, PHeap.empty] at h
    · exact Tr.get_z b
  obtain ⟨N, u, h', Z', h1, _, _, h2⟩ := h _ hg [.v (.s (.int k n))] (.cons (QRel.int k n) .nil)
  have hu : u = .v (.s (.bool b)) := by
    cases u with
    | tup _ => exact absurd h2 id
    | v x => cases x with
      | agg _ => exact absurd h2 id
      | s y => have h2 : QRel Z' (.bool b) y := h2; cases h2; rfl
  subst hu
  have hcl : Go.Vm.Clean (⟨.z, .h⟩ : Heap) := fun b _ => ⟨Tr.get_z b, fun c y hc => by have : (Tr.z : Tr Blk).get c = some y := hc; simp at this⟩
  have hsim : Sim (fun _ => none) (Heap.get ⟨.z, .h⟩) (Heap.next ⟨.z, .h⟩).toNat w :=
    ⟨fun _ _ _ _ h => (by cases h), fun _ _ _ _ _ _ _ h => (by cases h), fun _ _ => rfl⟩
  refine ((call_all hm hF (noO_ok P) N).run f _ _ _ _ hcl h1 _ w [.int k n] hsim (.cons rfl .nil)).mono fun e w' => ?_
  rintro ⟨v', rfl, φ', _, he, hr⟩
  have hr : v' = .bool b := hr
  subst hr
  refine ⟨rfl, ?_⟩
  have hget : (Heap.get ⟨.z, .h⟩) = fun _ => none := by funext k; exact Tr.get_z k
  rw [hget] at he
  exact left_of_ext he
end Go.Pv
end

/- A part of the proof that the law CountTower answers true. No condition. -/
import Derived.Test.YtdhdjlocnjailaaGreatVma
import Derived.LoopN
import Derived.Tactics
import Derived.Orders
set_option linter.unusedVariables false
set_option linter.unusedSimpArgs false
set_option linter.unusedSectionVars false
section
namespace Go.Vm
open Key (kn)
section
variable {P : Program} {w : World} {φ : Emb}
theorem keyKind_spec {t : TypeId} {ks : KeyK} (h : keyKind P t = some ks) : match ks with
    | .one k => shapeOf P t = some none ∧ leaves P 20 t = some [k]
    | .agg l => (∃ n, shapeOf P t = some (some n)) ∧ leaves P 20 t = some l := by
  unfold keyKind at h
  split at h
  · next k h1 h2 => cases h; exact ⟨h1, h2⟩
  · next n l h1 h2 => cases h; exact ⟨⟨n, h1⟩, h2⟩
  · cases h
theorem checkKey_leaves (empty : Bool) : ∀ (d : Nat) (t : TypeId) (ks : List LeafK), leaves P d t = some ks → ∀ (D : Nat), d ≤ D → ∀ (xs : List SV) (v : Value), xs.length = ks.length → CellsRel P φ t xs v →
    (Instr.checkKey empty D t v).run P w = .ok () w
  | 0, t, ks, h => by simp [leaves] at h
  | d + 1, t, ks, h => by
    intro D hD xs v hl hv
    obtain ⟨D, rfl⟩ : ∃ D', D = D' + 1 := ⟨D - 1, by omega⟩
    simp only [leaves] at h
    split at h
    · next hu => simp [Instr.checkKey, run_underlying hu]
    · next i hu => simp [Instr.checkKey, run_underlying hu]
    · next hu => simp [Instr.checkKey, run_underlying hu]
    · next fs hu =>
      split at h
      · cases h
      · have hsh : shapeOf P t ≠ some none := fun e => by
          unfold shapeOf at e
          cases hi : P.info? t <;> simp [hu, hi] at e
        rcases hv with ⟨hn, _⟩ | ⟨n, _, vs, rfl, hv⟩
        · exact absurd hn hsh
        · simp only [Instr.checkKey, Sem.run_bind, run_underlying hu, Result.andThen_ok]
          rw [← Array.forIn_toList]
          have key : ∀ (fs : List Field) (off : Nat) (q : List LeafK), leavesF P (leaves P d) fs off = some q → off + q.length = xs.length →
              (forIn (m := Sem) fs () (fun f _ => if f.name ≠ "_" then do Instr.checkKey empty D f.type (← part f.type vs.toArray f.offset); pure (ForInStep.yield ()) else pure (ForInStep.yield ()))).run P w = .ok () w := by
            intro fs
            induction fs with
            | nil => intro off q _ _; simp
            | cons f fs ih =>
              intro off q hq hlen
              simp only [leavesF] at hq
              split at hq
              · next hc =>
                split at hq
                · next l hl =>
                  split at hq
                  · next hsz =>
                    split at hq
                    · next q' hq' =>
                      cases hq
                      have hone : shapeOf P f.type = some none → l.length = 1 := (leaves_ok (w := w) (φ := φ) d f.type l hl).1
                      simp only [List.length_append] at hlen
                      obtain ⟨a, ha, hca⟩ := part_ok (w := w) (off := off) hc.2.2 hsz hv (by omega) hone
                      have hck := checkKey_leaves empty d f.type l hl D (by omega) _ a (by simp; omega) hca
                      simp only [List.forIn_cons, hc.1, ne_eq, not_false_eq_true, if_true, Sem.run_bind, hc.2.1, ha, Result.andThen_ok, hck, Sem.run_pure]
                      exact ih (off + l.length) q' hq' (by omega)
                    · cases hq
                  · cases hq
                · cases hq
              · cases hq
          have := key fs.toList 0 ks h (by omega)
          simp only [ne_eq] at this ⊢
          rw [this]
          simp
    · next n e hu =>
      split at h
      · next hc =>
        split at h
        · next l hll =>
          split at h
          · next hsz =>
            cases h
            have hsh : shapeOf P t ≠ some none := fun e => by
              unfold shapeOf at e
              cases hi : P.info? t <;> simp [hu, hi] at e
            rcases hv with ⟨hn, _⟩ | ⟨_, _, vs, rfl, hv⟩
            · exact absurd hn hsh
            · simp only [Instr.checkKey, Sem.run_bind, run_underlying hu, Result.andThen_ok]
              rw [Std.Legacy.Range.forIn_eq_forIn_range']
              simp only [Std.Legacy.Range.size, Nat.sub_zero, Nat.add_one_sub_one, Nat.div_one]
              have hone : shapeOf P e = some none → l.length = 1 := (leaves_ok (w := w) (φ := φ) d e l hll).1
              have hrl : ∀ n, (repl l n).length = n * l.length := by
                intro n
                induction n with
                | zero => simp [repl]
                | succ n ih => simp [repl, ih, Nat.add_mul, Nat.add_comm]
              have key : ∀ (m i : Nat), (i + m) * l.length ≤ xs.length →
                  (forIn (m := Sem) (List.range' i m) () (fun i _ => do Instr.checkKey empty D e (← part e vs.toArray (i * (← sizeOf e))); pure (ForInStep.yield ()))).run P w = .ok () w := by
                intro m
                induction m with
                | zero => intro i _; simp
                | succ m ih =>
                  intro i hle
                  have hle2 : i * l.length + l.length ≤ xs.length := by
                    have : (i + 1) * l.length ≤ (i + (m + 1)) * l.length := Nat.mul_le_mul_right _ (by omega)
                    rw [Nat.add_mul, Nat.one_mul] at this
                    omega
                  obtain ⟨a, ha, hca⟩ := part_ok (w := w) (off := i * l.length) hc.1 hsz hv hle2 hone
                  have hck := checkKey_leaves empty d e l hll D (by omega) _ a (by simp; omega) hca
                  simp only [List.range'_succ, List.forIn_cons, Sem.run_bind, run_sizeOf hsz, Result.andThen_ok, ha, hck, Sem.run_pure]
                  exact ih (i + 1) (by rw [show i + 1 + m = i + (m + 1) from by omega]; exact hle)
              rw [hrl] at hl
              rw [key n 0 (by rw [Nat.zero_add]; omega)]
              simp
          · cases h
        · cases h
      · cases h
    · cases h
theorem checkKey_ok (empty : Bool) {t : TypeId} {ks : KeyK} (hk : keyKind P t = some ks) {k : CV} {v : Value} (hv : CRel φ k v) (hlen : match ks, k with | .one _, .s _ => True | .agg l, .agg cs => cs.length = l.length | _, _ => False) :
    (Instr.checkKey empty 10000 t v).run P w = .ok () w := by
  have spec := keyKind_spec hk
  cases ks with
  | one l => cases k with
    | s x => exact checkKey_leaves (φ := φ) empty 20 t [l] spec.2 10000 (by omega) [x] v rfl (.inl ⟨spec.1, x, rfl, hv⟩)
    | agg cs => exact hlen.elim
  | agg l => cases k with
    | s x => exact hlen.elim
    | agg cs =>
      obtain ⟨⟨n, hn⟩, hl⟩ := spec
      obtain ⟨vs, rfl, hvs⟩ := hv
      exact checkKey_leaves (φ := φ) empty 20 t l hl 10000 (by omega) cs _ hlen (.inr ⟨n, hn, vs, rfl, hvs⟩)
theorem eqCV_ok {t : TypeId} {ks : KeyK} (hk : keyKind P t = some ks) {x y : CV} {v1 v2 : Value} {r : Bool} (h1 : CRel φ x v1) (h2 : CRel φ y v2) (he : eqCV ks x y = some r) : (Op.equal t v1 v2).run P w = .ok r w := by
  have spec := keyKind_spec hk
  unfold eqCV at he
  split at he
  · next k a b =>
    exact (leaves_ok (w := w) (φ := φ) 20 t [k] spec.2).2 10000 (by omega) [a] [b] v1 v2 r (by simp [eqCells, he]) (.inl ⟨spec.1, a, rfl, h1⟩) (.inl ⟨spec.1, b, rfl, h2⟩)
  · next l a b =>
    obtain ⟨⟨n, hn⟩, hl⟩ := spec
    obtain ⟨va, rfl, hva⟩ := h1
    obtain ⟨vb, rfl, hvb⟩ := h2
    exact (leaves_ok (w := w) (φ := φ) 20 t l hl).2 10000 (by omega) a b _ _ r he (.inr ⟨n, hn, va, rfl, hva⟩) (.inr ⟨n, hn, vb, rfl, hvb⟩)
  · cases he
theorem sameNow_ok {t : TypeId} {d : TypeDesc} (hu : P.underlying t = some d) {a b : Value} {r : Bool} (h : Instr.sameNow d a b = some r) : (Op.equal t a b).run P w = .ok r w := by
  unfold Instr.sameNow at h
  split at h
  · next k0 k x k' y =>
    split at h
    · next hk => subst hk; cases h; exact run_equalIn_int w _ t k k0 x y hu
    · cases h
  · next x y =>
    cases h
    have := run_equalIn_string w 9999 t x y hu
    rw [← beq_toListBytes] at this
    exact this
  · next x y => cases h; exact run_equalIn_bool' w _ t x y hu
  · cases h
theorem findNow_ok {t : TypeId} {d : TypeDesc} (hu : P.underlying t = some d) {k : Value} : ∀ (es : List MapEntry) (i : Nat) (r : Option (Nat × Value)), Instr.findNow d k es i = some r → (Instr.findAsking t k es i).run P w = .ok r w
  | [], i, r, h => by simp [Instr.findNow] at h; subst h; simp [Instr.findAsking]
  | e :: es, i, r, h => by
    simp only [Instr.findNow] at h
    split at h
    · next hs => cases h; simp [Instr.findAsking, sameNow_ok hu hs]
    · next hs => simp only [Instr.findAsking, Sem.run_bind, sameNow_ok hu hs, Result.andThen_ok, Bool.false_eq_true, if_false]; exact findNow_ok hu es (i + 1) r h
    · cases h
theorem findKey_eq {t : TypeId} {d : TypeDesc} (hu : P.underlying t = some d) (k : Value) (es : List MapEntry) : (Instr.findKey t k es).run P w = (Instr.findAsking t k es).run P w := by
  simp only [Instr.findKey, Sem.run_bind, run_underlying hu, Result.andThen_ok]
  cases h : Instr.findNow d k es 0 with
  | none => rfl
  | some r => simp only [Sem.run_pure]; rw [findNow_ok hu es 0 r h]
theorem findCV_ok {t : TypeId} {ks : KeyK} (hk : keyKind P t = some ks) {k : CV} {vk : Value} (hv : CRel φ k vk) : ∀ (l : List (CV × CV)) (es : List MapEntry) (i : Nat) (r : Option CV), findCV ks k l = some r →
    All₂ (fun p (e : MapEntry) => CRel φ p.1 e.key ∧ CRel φ p.2 e.val) l es →
    (r = none ∧ (Instr.findAsking t vk es i).run P w = .ok none w) ∨ (∃ j e c, r = some c ∧ es[j]? = some e ∧ CRel φ c e.val ∧ (Instr.findAsking t vk es i).run P w = .ok (some (i + j, e.val)) w)
  | [], es, i, r, h, ha => by
    cases ha
    simp [findCV] at h
    subst h
    exact .inl ⟨rfl, by simp [Instr.findAsking]⟩
  | (x, v) :: l, es, i, r, h, ha => by
    cases ha with
    | @cons _ e _ es hx ha =>
    unfold findCV at h
    split at h
    · next he =>
      cases h
      exact .inr ⟨0, e, v, rfl, rfl, hx.2, by simp [Instr.findAsking, eqCV_ok hk hv hx.1 he]⟩
    · next he =>
      rcases findCV_ok hk hv l es (i + 1) r h ha with ⟨rfl, h2⟩ | ⟨j, e', c, rfl, h2, h3, h4⟩
      · exact .inl ⟨rfl, by simp [Instr.findAsking, eqCV_ok hk hv hx.1 he, h2]⟩
      · refine .inr ⟨j + 1, e', c, rfl, h2, h3, ?_⟩
        simp only [Instr.findAsking, Sem.run_bind, eqCV_ok hk hv hx.1 he, Result.andThen_ok, Bool.false_eq_true, if_false, h4]
        rw [show i + 1 + j = i + (j + 1) from by omega]
    · cases h
end
theorem ok_lookup (P : Program) (t : TypeId) (x i : Operand) (ok : Bool) : Ok P (.lookup t x i ok) := by
  intro vop xs hc
  simp only [cOp] at hc
  split at hc
  · next kt vt hu =>
    split at hc
    · next ks z hk hz =>
      cases hc
      intro o ho φ h nx w ρ args v h' hr s _ ha
      obtain ⟨dst, op, type, pos, after, guard⟩ := o
      simp only at ho; subst ho
      simp only [VOp.run] at hr
      unfold rLookup at hr
      split at hr
      · next k =>
        split at hr
        · next hfit =>
          cases hr
          obtain ⟨a1, a2⟩ := arg2 ha
          have e1 : ρ x = .map none := a1
          have hck := checkKey_ok (P := P) (w := w) true hk a2 (by unfold keyFits at hfit; split at hfit <;> simp_all)
          obtain ⟨it, zv, h1, h2, h3⟩ := zeroT_ok (φ := φ) hz
          obtain ⟨d, hd⟩ : ∃ d, P.underlying kt = some d := by
            have := keyKind_spec hk
            cases hd : P.underlying kt with
            | some d => exact ⟨d, rfl⟩
            | none =>
              unfold keyKind at hk
              simp [shapeOf, hd] at hk
          have hf : (Instr.findKey kt (ρ i) []).run P w = .ok none w := by rw [findKey_eq hd]; simp [Instr.findAsking]
          cases ok
          · exact pure_ok (v' := zv) s (by simp [execOp, Instr.lookup, run_underlying hu, e1, hck, hf, run_zero h1 h2]) h3
          · exact pure_ok (v' := .tuple #[zv, .bool false]) s (by simp [execOp, Instr.lookup, run_underlying hu, e1, hck, hf, run_zero h1 h2]) ⟨[zv, .bool false], rfl, .cons h3 (.cons rfl .nil)⟩
        · cases hr
      · next bk k =>
        split at hr
        · next hfit =>
          split at hr
          · next l own anc hg =>
            split at hr
            · next r hfind =>
              cases hr
              obtain ⟨a1, a2⟩ := arg2 ha
              obtain ⟨lc, e0, e1⟩ := a1
              obtain ⟨arr, f1, _, f3⟩ := s.map e0 hg
              have hck := checkKey_ok (P := P) (w := w) arr.isEmpty hk a2 (by unfold keyFits at hfit; split at hfit <;> simp_all)
              obtain ⟨it, zv, h1, h2, h3⟩ := zeroT_ok (φ := φ) hz
              obtain ⟨d, hd⟩ : ∃ d, P.underlying kt = some d := by
                cases hd : P.underlying kt with
                | some d => exact ⟨d, rfl⟩
                | none =>
                  unfold keyKind at hk
                  simp [shapeOf, hd] at hk
              have hobj := run_getObj (P := P) f1 (by simp)
              rcases findCV_ok (w := w) hk a2 l arr.toList 0 r hfind f3 with ⟨rfl, h4⟩ | ⟨j, e, c, rfl, _, h5, h4⟩
              · have hf : (Instr.findKey kt (ρ i) arr.toList).run P w = .ok none w := by rw [findKey_eq hd]; exact h4
                cases ok
                · exact pure_ok (v' := zv) s (by simp [execOp, Instr.lookup, run_underlying hu, e1, hobj, hck, hf, run_zero h1 h2]) h3
                · exact pure_ok (v' := .tuple #[zv, .bool false]) s (by simp [execOp, Instr.lookup, run_underlying hu, e1, hobj, hck, hf, run_zero h1 h2]) ⟨[zv, .bool false], rfl, .cons h3 (.cons rfl .nil)⟩
              · have hf : (Instr.findKey kt (ρ i) arr.toList).run P w = .ok (some (0 + j, e.val)) w := by rw [findKey_eq hd]; exact h4
                cases ok
                · exact pure_ok (v' := e.val) s (by simp [execOp, Instr.lookup, run_underlying hu, e1, hobj, hck, hf]) h5
                · exact pure_ok (v' := .tuple #[e.val, .bool true]) s (by simp [execOp, Instr.lookup, run_underlying hu, e1, hobj, hck, hf]) ⟨[e.val, .bool true], rfl, .cons h5 (.cons rfl .nil)⟩
            · cases hr
          · cases hr
        · cases hr
      · cases hr
    · cases hc
  · cases hc
end Go.Vm
end
section
namespace Go.Vm
open Key (kn)
theorem Sim.putObj {φ : Emb} {g : Mem} {nx : Nat} {w w' : World} (s : Sim φ g nx w) {b : Key} {lc : Loc} (hφ : φ b = some lc) {body body' : Body} (hg : g b = some ⟨body, true, []⟩) {o' : Obj} (hr : BRel φ lc true body' o')
    (hw : w'.heap = w.heap.setIfInBounds lc.blk o') (ho : w'.os = w.os ∧ w'.output = w.output := by exact ⟨rfl, rfl⟩) :
    Sim φ (fun k => if b = k then some ⟨body', true, []⟩ else g k) nx w' ∧ ∀ lo, Ext φ g lo w φ (fun k => if b = k then some ⟨body', true, []⟩ else g k) lo w' := by
  have hlt : lc.blk < w.heap.size := s.lt hg hφ
  have hother : ∀ k x lk, b ≠ k → g k = some x → φ k = some lk → lk.blk ≠ lc.blk := fun k x lk hne h1 h2 h3 => by
    have := (s.sep b _ lc k x lk hg hφ h1 h2 h3.symm hne rfl).1
    simp at this
  refine ⟨⟨fun k x lk h1 h2 => ?_, fun k x lk k' x' lk' h1 h2 h3 h4 h5 h6 h7 => ?_, s.fresh⟩, fun lo => ⟨Le.refl φ, fun _ h _ => h, Nat.le_refl _, by rw [hw]; simp, fun r ob hr' hn => ?_, fun k x lk h1 h2 h3 _ => ?_, fun k lk h1 h2 _ => (by rw [h1] at h2; cases h2), ho⟩⟩
  · by_cases hk : b = k
    · subst hk
      simp only [if_true] at h1
      cases h1
      rw [hφ] at h2; cases h2
      exact ⟨o', by rw [hw]; simp [hlt], hr⟩
    · simp only [hk, if_false] at h1
      obtain ⟨o, ho, hro⟩ := s.blk k x lk h1 h2
      exact ⟨o, by rw [hw, Array.getElem?_setIfInBounds_ne (Ne.symm (hother k x lk hk h1 h2))]; exact ho, hro⟩
  · by_cases hk : b = k
    · subst hk
      rw [hφ] at h2; cases h2
      simp only [h6, if_false] at h3
      exact absurd h5.symm (hother k' x' lk' h6 h3 h4)
    · simp only [hk, if_false] at h1
      by_cases hk' : b = k'
      · subst hk'
        rw [hφ] at h4; cases h4
        exact absurd h5 (hother k x lk hk h1 h2)
      · simp only [hk', if_false] at h3
        exact s.sep k x lk k' x' lk' h1 h2 h3 h4 h5 h6 h7
  · have hne : lc.blk ≠ r := fun e => hn b _ lc hg rfl hφ e
    rw [hw, Array.getElem?_setIfInBounds_ne hne]; exact hr'
  · by_cases hk : b = k
    · subst hk; exact ⟨b, _, lc, hg, rfl, hφ, by rw [hφ] at h3; cases h3; rfl⟩
    · simp only [hk, if_false] at h1
      exact ⟨k, x, lk, h1, h2, h3, rfl⟩
section
variable {P : Program} {w : World} {φ : Emb}
theorem run_setObj {r : Nat} {o o' : Obj} (h : w.heap[r]? = some o) (hn : ∀ c e f, o ≠ .cells c e f) : (setObj r o').run P w = .ok () { w with heap := w.heap.setIfInBounds r o' } := by
  cases o with
  | cells c e f => exact absurd rfl (hn c e f)
  | _ => simp only [setObj, Sem.run, h]
theorem eqCell_true {k : LeafK} {x y : SV} (h : eqCell k x y = some true) : x = y := by
  unfold eqCell at h
  split at h
  · simp at h; rw [h]
  · split at h
    · next hk => subst hk; simp at h; rw [h]
    · cases h
  · simp at h; rw [h]
  · cases h
theorem eqCells_true : ∀ {ks : List LeafK} {xs ys : List SV}, eqCells ks xs ys = some true → xs = ys
  | [], [], [], _ => rfl
  | [], [], _ :: _, h => by simp [eqCells] at h
  | [], _ :: _, _, h => by simp [eqCells] at h
  | _ :: _, [], _, h => by simp [eqCells] at h
  | _ :: _, _ :: _, [], h => by simp [eqCells] at h
  | k :: ks, x :: xs, y :: ys, h => by
    simp only [eqCells] at h
    split at h
    · next r hr =>
      split at h
      · next q hq =>
        simp at h
        obtain ⟨rfl, rfl⟩ := h
        rw [eqCell_true hr, eqCells_true hq]
      · cases h
    · cases h
theorem eqCV_true {ks : KeyK} {x y : CV} (h : eqCV ks x y = some true) : x = y := by
  unfold eqCV at h
  split at h
  · rw [eqCell_true h]
  · rw [eqCells_true h]
  · cases h
theorem run_keyThatStays (old new : Value) : ∃ k w', (Instr.keyThatStays old new).run P w = .ok k w' ∧ w'.heap = w.heap ∧ (k = old ∨ k = new) ∧ w'.os = w.os ∧ w'.output = w.output := by
  unfold Instr.keyThatStays
  by_cases h : Instr.sameBits 10000 old new = true
  · exact ⟨new, w, by simp only [h, if_true, Sem.run_pure], rfl, .inr rfl, rfl, rfl⟩
  · simp only [h, if_false, Sem.run_bind, run_choose, Question.forced, Bool.false_eq_true, Sem.run_pure]
    refine ⟨_, _, rfl, rfl, ?_, rfl, rfl⟩
    split
    · exact .inr rfl
    · exact .inl rfl
def ERel (φ : Emb) (p : CV × CV) (e : MapEntry) : Prop := CRel φ p.1 e.key ∧ CRel φ p.2 e.val
theorem setCV_ok {t : TypeId} {ks : KeyK} (hk : keyKind P t = some ks) {k v : CV} {vk : Value} (hv : CRel φ k vk) : ∀ (l l' : List (CV × CV)) (es : List MapEntry) (i : Nat), setCV ks k v l = some l' → All₂ (ERel φ) l es →
    ((Instr.findAsking t vk es i).run P w = .ok none w ∧ l' = l ++ [(k, v)]) ∨
    (∃ j e, es[j]? = some e ∧ (Instr.findAsking t vk es i).run P w = .ok (some (i + j, e.val)) w ∧ CRel φ k e.key ∧ ∀ e', ERel φ (k, v) e' → All₂ (ERel φ) l' (es.set j e'))
  | [], l', es, i, h, ha => by
    cases ha
    simp [setCV] at h
    subst h
    exact .inl ⟨by simp [Instr.findAsking], rfl⟩
  | (x, u) :: l, l', es, i, h, ha => by
    cases ha with
    | @cons _ e _ es hx ha =>
    unfold setCV at h
    split at h
    · next he =>
      cases h
      have := eqCV_true he
      subst this
      exact .inr ⟨0, e, rfl, by simp [Instr.findAsking, eqCV_ok hk hv hx.1 he], hx.1, fun e' he' => .cons he' ha⟩
    · next he =>
      split at h
      · next r hr =>
        cases h
        rcases setCV_ok hk hv l r es (i + 1) hr ha with ⟨h2, rfl⟩ | ⟨j, e', h1, h2, h3, h4⟩
        · exact .inl ⟨by simp [Instr.findAsking, eqCV_ok hk hv hx.1 he, h2], rfl⟩
        · refine .inr ⟨j + 1, e', h1, ?_, h3, fun e2 he2 => .cons hx (h4 e2 he2)⟩
          simp only [Instr.findAsking, Sem.run_bind, eqCV_ok hk hv hx.1 he, Result.andThen_ok, Bool.false_eq_true, if_false, h2]
          rw [show i + 1 + j = i + (j + 1) from by omega]
      · cases h
    · cases h
end
theorem mapset_ok {P : Program} {t kt vt : TypeId} (hu : P.underlying t = some (.map kt vt)) {ks : KeyK} (hk : keyKind P kt = some ks) (op : Op) (m k x : Operand)
    (hop : ∀ (ρ : Operand → Value) (dst : Option Tmp) (ty : TypeId) (pos : String) (af : Array Edge) (g : Option (Nat × Bool)), execOp ρ ⟨dst, op, ty, pos, af, g⟩ = (do Instr.mapUpdate t (ρ m) (ρ k) (ρ x); pure .skip)) :
    OkAt P op (.mapset ks) [m, k, x] := by
  intro o ho φ h nx w ρ args v h' hr s _ ha
  obtain ⟨dst, op, type, pos, after, guard⟩ := o
  simp only at ho; subst ho
  simp only [VOp.run] at hr
  unfold rMapset at hr
  split at hr
  · next bk kc vc =>
    split at hr
    · next hfit =>
      split at hr
      · next l hg =>
        split at hr
        · next l' hset =>
          cases hr
          obtain ⟨⟨lc, e0, e1⟩, a2, a3⟩ := arg3 ha
          obtain ⟨arr, f1, f2, f3⟩ := s.map e0 hg
          have hck := checkKey_ok (P := P) (w := w) false hk a2 (by unfold keyFits at hfit; split at hfit <;> simp_all)
          obtain ⟨d, hd⟩ : ∃ d, P.underlying kt = some d := by
            cases hd : P.underlying kt with
            | some d => exact ⟨d, rfl⟩
            | none =>
              unfold keyKind at hk
              simp [shapeOf, hd] at hk
          have hobj := run_getObj (P := P) f1 (by simp)
          have hnx : ∀ b : Option Blk, (h.upd bk b).next = h.next := fun _ => rfl
          rcases setCV_ok (w := w) hk a2 l l' arr.toList 0 hset f3 with ⟨h1, rfl⟩ | ⟨j, e, h1, h2, h3, h4⟩
          · have hf : (Instr.findKey kt (ρ k) arr.toList).run P w = .ok none w := by rw [findKey_eq hd]; exact h1
            have hrel : BRel φ lc true (.map (l ++ [(kc, vc)])) (.map (arr.push { key := ρ k, val := ρ x, born := arr.size }) (arr.size + 1)) := by
              refine ⟨arr.push { key := ρ k, val := ρ x, born := arr.size }, by simp, fun i hi => ?_, ?_⟩
              · by_cases hi2 : i < arr.size
                · simp [Array.getElem_push, hi2, f2 i hi2]
                · have : i = arr.size := by simp at hi; omega
                  subst this; simp
              · rw [Array.toList_push]
                exact forall₂_append f3 (.cons ⟨a2, a3⟩ .nil)
            obtain ⟨g1, g2⟩ := s.putObj (w' := { w with heap := w.heap.setIfInBounds lc.blk (.map (arr.push { key := ρ k, val := ρ x, born := arr.size }) (arr.size + 1)) }) e0 hg hrel rfl
            refine ⟨undef, _, .inr ⟨?_, rfl⟩, φ, fun nx' k1 _ => by rw [get_upd]; exact g1.up k1, by rw [get_upd]; exact g2 _, ⟨[], rfl, .nil⟩⟩
            rw [hop]
            simp [Instr.mapUpdate, run_underlying hu, e1, hobj, hck, hf, run_setObj (P := P) f1 (by simp)]
          · have hf : (Instr.findKey kt (ρ k) arr.toList).run P w = .ok (some (0 + j, e.val)) w := by rw [findKey_eq hd]; exact h2
            have hjlt : j < arr.size := by
              have := (List.getElem?_eq_some_iff.1 h1).1
              simpa using this
            have hje : arr[j]? = some e := by rw [← Array.getElem?_toList]; exact h1
            obtain ⟨key', w1, k1, k2, k3, k4⟩ := run_keyThatStays (P := P) (w := w) e.key (ρ k)
            have hkey : CRel φ kc key' := by
              rcases k3 with rfl | rfl
              · exact h3
              · exact a2
            have hmod : (arr.modify (0 + j) fun e => { e with key := key', val := ρ x }) = arr.setIfInBounds j { e with key := key', val := ρ x } := by
              apply Array.ext_getElem?
              intro i
              rw [Array.getElem?_modify, Nat.zero_add]
              by_cases hij : j = i
              · subst hij
                rw [if_pos rfl, hje, Array.getElem?_setIfInBounds_self_of_lt hjlt]
                rfl
              · rw [if_neg hij, Array.getElem?_setIfInBounds_ne hij]
            have hrel : BRel φ lc true (.map l') (.map (arr.setIfInBounds j { e with key := key', val := ρ x }) arr.size) := by
              refine ⟨arr.setIfInBounds j { e with key := key', val := ρ x }, by simp, fun i hi => ?_, ?_⟩
              · have hi' : i < arr.size := by simpa using hi
                have hb1 := f2 i hi'
                by_cases hij : j = i
                · subst hij
                  have : arr[j] = e := by
                    have := hje
                    rw [Array.getElem?_eq_getElem hjlt] at this
                    simpa using this
                  rw [Array.getElem_setIfInBounds_self]
                  show e.born = _
                  rw [← this]; exact hb1
                · rw [Array.getElem_setIfInBounds_ne _ hij]; exact hb1
              · rw [Array.toList_setIfInBounds]
                exact h4 _ ⟨hkey, a3⟩
            obtain ⟨g1, g2⟩ := s.putObj (w' := { w1 with heap := w1.heap.setIfInBounds lc.blk (.map (arr.setIfInBounds j { e with key := key', val := ρ x }) arr.size) }) e0 hg hrel (by simp [k2]) k4
            refine ⟨undef, _, .inr ⟨?_, rfl⟩, φ, fun nx' k1 _ => by rw [get_upd]; exact g1.up k1, by rw [get_upd]; exact g2 _, ⟨[], rfl, .nil⟩⟩
            rw [hop]
            have hset' := run_setObj (P := P) (w := w1) (r := lc.blk) (o' := .map (arr.setIfInBounds j { e with key := key', val := ρ x }) arr.size) (by rw [k2]; exact f1) (by simp)
            simp only [Instr.mapUpdate, Sem.run_bind, run_underlying hu, e1, hobj, hck, hf, Result.andThen_ok, Nat.zero_add, hje, Option.map_some, Option.getD_some, k1]
            rw [Nat.zero_add] at hmod
            simp only [hmod, hset', Result.andThen_ok, Sem.run_pure]
        · cases hr
      · cases hr
    · cases hr
  · cases hr
theorem ok_mapUpdate (P : Program) (t : TypeId) (m k x : Operand) : Ok P (.mapUpdate t m k x) := by
  intro vop xs hc
  simp only [cOp] at hc
  split at hc
  · next kt vt hu =>
    cases hk : keyKind P kt with
    | none => simp [hk] at hc
    | some ks =>
      simp only [hk, Option.map_some, Option.some.injEq, Prod.mk.injEq, VAct.op.injEq] at hc
      obtain ⟨rfl, rfl⟩ := hc
      exact mapset_ok hu hk _ m k x (fun _ _ _ _ _ _ => rfl)
  · cases hc
theorem ok_insert (P : Program) (t : TypeId) (m k x : Operand) : Ok P (.insert t m k x) := by
  intro vop xs hc
  simp only [cOp] at hc
  split at hc
  · next kt vt hu =>
    cases hk : keyKind P kt with
    | none => simp [hk] at hc
    | some ks =>
      simp only [hk, Option.map_some, Option.some.injEq, Prod.mk.injEq, VAct.op.injEq] at hc
      obtain ⟨rfl, rfl⟩ := hc
      exact mapset_ok hu hk _ m k x (fun _ _ _ _ _ _ => rfl)
  · cases hc
end Go.Vm
end
section
namespace Go.Vm
open Key (kn)
theorem ok_range (P : Program) (t : TypeId) (x : Operand) : Ok P (.range t x) := by
  intro vop xs hc
  simp only [cOp] at hc
  split at hc
  · next a b hu =>
    cases hc
    intro o ho φ h nx w ρ args v h' hr s hb ha
    obtain ⟨dst, op, type, pos, after, guard⟩ := o
    simp only at ho; subst ho
    simp only [VOp.run] at hr
    unfold rMrange at hr
    split at hr
    · next bk =>
      split at hr
      · next l own anc hg =>
        split at hr
        · next hl =>
          cases hr
          obtain ⟨lc, e0, e1⟩ := arg1 ha
          obtain ⟨arr, f1, f2, f3⟩ := s.map e0 hg
          have hlen : l.length = arr.size := by rw [forall₂_len f3]; simp
          have hobj := run_getObj (P := P) f1 (by simp)
          have hlc : (φ.set h.next ⟨w.heap.size, 0, 0⟩) bk = some lc := Emb.le_set _ hb _ _ e0
          obtain ⟨g1, g2⟩ := alloc_ok (w' := w.alloc (.mapIter (some lc.blk) arr.size #[] arr.size)) (o := .mapIter (some lc.blk) arr.size #[] arr.size) s hb ⟨.iter bk l.length 0, true, []⟩ ⟨w.heap.size, 0, 0⟩ rfl rfl
            ⟨rfl, lc, hlc, by rw [hlen]; rfl⟩
          exact ⟨.pointer (some ⟨w.heap.size, 0, none⟩), w.alloc (.mapIter (some lc.blk) arr.size #[] arr.size), .inl (by simp [execOp, Instr.range, run_underlying hu, e1, hobj]), _, g1, g2, ⟨_, Emb.set_same _ _ _, rfl⟩⟩
        · cases hr
      · cases hr
    · cases hr
  · cases hc
theorem Sim.iter {φ : Emb} {h : Heap} {nx : Nat} {w : World} (s : Sim φ h.get nx w) {b m : Key} {lc : Loc} (hφ : φ b = some lc) {n st : Nat} {own : Bool} {anc : List Key} (hg : h.get b = some ⟨.iter m n st, own, anc⟩) :
    lc.off = 0 ∧ ∃ l', φ m = some l' ∧ w.heap[lc.blk]? = some (.mapIter (some l'.blk) n (if st = 0 then #[] else #[0]) n) := by
  obtain ⟨o, hw, h0, l', h1, rfl⟩ := s.blk b _ lc hg hφ
  exact ⟨h0, l', h1, hw⟩
theorem size_one {α : Type} {arr : Array α} (h : arr.size = 1) : ∃ e, arr = #[e] := by
  obtain ⟨l⟩ := arr
  match l, h with
  | [e], _ => exact ⟨e, rfl⟩
theorem ok_next (P : Program) (i : Operand) (isString : Bool) : Ok P (.next i isString) := by
  intro vop xs hc
  cases isString with
  | true => simp [cOp] at hc
  | false =>
    simp only [cOp, Option.some.injEq, Prod.mk.injEq, VAct.op.injEq] at hc
    obtain ⟨rfl, rfl⟩ := hc
    intro o ho φ h nx w ρ args v h' hr s _ ha
    obtain ⟨dst, op, type, pos, after, guard⟩ := o
    simp only at ho; subst ho
    simp only [VOp.run] at hr
    unfold rMnext at hr
    split at hr
    · next ik =>
      split at hr
      · next b n st hg =>
        split at hr
        · next l own2 anc2 hg2 =>
          split at hr
          · next hl =>
            obtain ⟨lc, e0, e1⟩ := arg1 ha
            obtain ⟨h0, l', f0, f1⟩ := s.iter e0 hg
            obtain ⟨arr, f2, f3, f4⟩ := s.map f0 hg2
            have hlen : l.length = arr.size := by rw [forall₂_len f4]; simp
            have e1 : ρ i = .pointer (some ⟨lc.blk, 0, none⟩) := by rw [e1, h0]
            have hobj := run_getObj (P := P) f1 (by simp)
            have hmap := run_getObj (P := P) f2 (by simp)
            split at hr
            · next k v _ =>
              cases hr
              obtain ⟨e, rfl⟩ := size_one (arr := arr) (by rw [← hlen]; rfl)
              have hborn : e.born = 0 := f3 0 (by simp)
              have hn : n = 1 := by rw [← hl]; rfl
              subst hn
              simp only [if_true] at f1 hobj
              cases f4 with
              | cons hkv _ =>
              obtain ⟨g1, g2⟩ := s.putObj (w' := { w with heap := w.heap.setIfInBounds lc.blk (.mapIter (some l'.blk) 1 #[0] 1) }) e0 hg (body' := .iter b 1 1) ⟨h0, l', f0, rfl⟩ rfl
              refine ⟨.tuple #[.bool true, e.key, e.val], _, .inl ?_, φ, fun nx' k1 _ => by rw [get_upd]; exact g1.up k1, by rw [get_upd]; exact g2 _, ⟨[.bool true, e.key, e.val], rfl, .cons rfl (.cons hkv.1 (.cons hkv.2 .nil))⟩⟩
              have hset := run_setObj (P := P) (o' := .mapIter (some l'.blk) 1 #[0] 1) f1 (by simp)
              simp [execOp, Instr.next, e1, hobj, hmap, hborn, Question.forced, hset]
            · cases hr
              have hn : n = 0 := by rw [← hl]; rfl
              have harr : arr = #[] := Array.eq_empty_of_size_eq_zero (by rw [← hlen]; rfl)
              subst harr
              simp only [if_true] at f1 hobj
              refine pure_ok (v' := .tuple #[.bool false]) s ?_ ⟨[.bool false], rfl, .cons rfl .nil⟩
              simp [execOp, Instr.next, e1, hobj, hmap, Question.forced]
            · next m' kv =>
              cases hr
              obtain ⟨e, rfl⟩ := size_one (arr := arr) (by rw [← hlen]; rfl)
              have hborn : e.born = 0 := f3 0 (by simp)
              have hn : n = 1 := by rw [← hl]; rfl
              subst hn
              have hne : ¬ (m' + 1 = 0) := by omega
              rw [if_neg hne] at f1 hobj
              refine pure_ok (v' := .tuple #[.bool false]) s ?_ ⟨[.bool false], rfl, .cons rfl .nil⟩
              simp [execOp, Instr.next, e1, hobj, hmap, hborn, Question.forced]
            · cases hr
          · cases hr
        · cases hr
      · cases hr
    · cases hr
theorem ok_entry (P : Program) (i : Operand) : Ok P (.entry i) := by
  intro vop xs hc
  simp only [cOp, Option.some.injEq, Prod.mk.injEq, VAct.op.injEq] at hc
  obtain ⟨rfl, rfl⟩ := hc
  intro o ho φ h nx w ρ args v h' hr s _ ha
  obtain ⟨dst, op, type, pos, after, guard⟩ := o
  simp only at ho; subst ho
  simp only [VOp.run] at hr
  unfold rMentry at hr
  split at hr
  · next ik =>
    split at hr
    · next b n own anc hg =>
      split at hr
      · next k v own2 anc2 hg2 =>
        split at hr
        · next hn =>
          cases hr
          subst hn
          obtain ⟨lc, e0, e1⟩ := arg1 ha
          obtain ⟨h0, l', f0, f1⟩ := s.iter e0 hg
          obtain ⟨arr, f2, f3, f4⟩ := s.map f0 hg2
          have hlen := forall₂_len f4
          obtain ⟨e, rfl⟩ := size_one (arr := arr) (by simpa using hlen.symm)
          have hborn : e.born = 0 := f3 0 (by simp)
          have e1 : ρ i = .pointer (some ⟨lc.blk, 0, none⟩) := by rw [e1, h0]
          simp only [Nat.one_ne_zero, if_false] at f1
          have hobj := run_getObj (P := P) f1 (by simp)
          have hmap := run_getObj (P := P) f2 (by simp)
          cases f4 with
          | cons hkv _ =>
          refine pure_ok (v' := .tuple #[e.key, e.val]) s ?_ ⟨[e.key, e.val], rfl, .cons hkv.1 (.cons hkv.2 .nil)⟩
          simp [execOp, Instr.entry, e1, hobj, hmap, hborn]
        · cases hr
      · cases hr
    · cases hr
  · cases hr
theorem ok_convert (P : Program) (s0 d : TypeId) (x : Operand) : Ok P (.convert s0 d x) := by
  intro vop xs hc
  simp only [cOp] at hc
  split at hc
  · next j k hs hd => cases hc; exact okAt_conv s0 d x hs hd
  · cases hc
theorem ok_all (P : Program) (op : Op) : Ok P op := by
  cases op with
  | move x => exact ok_move P x
  | assign x => exact ok_assign P x
  | pick c a b => exact ok_pick P c a b
  | alloc e => exact ok_alloc P e
  | box e v => exact ok_box P e v
  | build t ps => exact ok_build P t ps
  | buildSlice t n ps => exact ok_buildSlice P t n ps
  | insert t m k v => exact ok_insert P t m k v
  | load t a => exact ok_load P t a
  | store t a v => exact ok_store P t a v
  | nilCheck x => exact ok_nilCheck P x
  | binOp b t x y yt => exact ok_binOp P b t x y yt
  | unOp u t x => exact ok_unOp P u t x
  | convert s d x => exact ok_convert P s d x
  | makeFunc fn first cap => exact ok_makeFunc P fn first cap
  | makeMap t r => exact ok_makeMap P t r
  | makeSlice t l c => exact ok_makeSlice P t l c
  | slice t x lo hi mx => exact ok_slice P t x lo hi mx
  | fieldAddr t x f => exact ok_fieldAddr P t x f
  | field t x f => exact ok_field P t x f
  | indexAddr t x i => exact ok_indexAddr P t x i
  | index t x i => exact ok_index P t x i
  | lookup t x i ok => exact ok_lookup P t x i ok
  | mapUpdate t m k v => exact ok_mapUpdate P t m k v
  | range t x => exact ok_range P t x
  | next i b => exact ok_next P i b
  | entry i => exact ok_entry P i
  | extract t i => exact ok_extract P t i
  | call c =>
    obtain ⟨callee, A, ats⟩ := c
    cases callee with
    | builtin b => exact ok_builtin P b A ats
    | invoke r m => intro vop xs hc; simp [cOp, cCall] at hc
    | value f =>
      intro vop xs hc
      simp only [cOp, cCall] at hc
      cases f with
      | func g =>
        simp only at hc
        split at hc
        · split at hc <;> cases hc
        · cases hc
      | _ => simp at hc
  | _ => intro vop xs hc; simp [cOp] at hc
end Go.Vm
end
section
namespace Go.Vm
open Key (kn)
structure FrRel (φ : Emb) (N : Nat) (fr : Fr) (a : Act) : Prop where
  size : N ≤ a.tmps.size
  get : ∀ k v, fr.get k = some v → ARel φ v (a.tmps.getD k.toNat undef)
  defers : a.defers = []
theorem FrRel.mono {φ φ' : Emb} {N : Nat} {fr : Fr} {a : Act} (h : FrRel φ N fr a) (hl : Le φ φ') : FrRel φ' N fr a :=
  ⟨h.size, fun k v e => (h.get k v e).mono hl, h.defers⟩
theorem put_size (a : Act) (d : Option Tmp) (v : Value) : (a.put d v).tmps.size = a.tmps.size := by cases d <;> simp [Act.put]
theorem put_defers (a : Act) (d : Option Tmp) (v : Value) : (a.put d v).defers = a.defers := by cases d <;> rfl
theorem FrRel.put {φ : Emb} {N : Nat} {fr : Fr} {a : Act} (h : FrRel φ N fr a) {o : Oper} (hd : dstOk N o = true) {v : AV} {v' : Value} (hv : ARel φ v v') :
    FrRel φ N (putV fr (o.dst.map kn) v) (a.put o.dst v') := by
  refine ⟨by rw [put_size]; exact h.size, fun k u e => ?_, by rw [put_defers]; exact h.defers⟩
  unfold dstOk at hd
  cases hdst : o.dst with
  | none => rw [hdst] at e; simpa [Act.put] using h.get k u e
  | some d =>
    rw [hdst] at e hd
    have hlt : d < a.tmps.size := Nat.lt_of_lt_of_le (by simpa using hd) h.size
    simp only [Option.map_some, putV, Tr.get_upd] at e
    by_cases hk : kn d = k
    · subst hk
      simp only [if_true, Option.some.injEq] at e
      subst e
      simpa [Act.put, Key.toNat_kn, hlt] using hv
    · simp only [hk, if_false] at e
      have hne : d ≠ k.toNat := fun e' => hk (by rw [e', Key.kn_toNat])
      have := h.get k u e
      simpa [Act.put, Array.getElem?_setIfInBounds_ne hne] using this
theorem cX_ok {φ : Emb} {N : Nat} {fr : Fr} {a : Act} (h : FrRel φ N fr a) {x : Operand} {y : VX} (hc : cX x = some y) {v : AV} (e : y.eval fr = some v) : ARel φ v (a.eval x) := by
  cases x with
  | tmp t =>
    simp only [cX, Option.some.injEq] at hc
    subst hc
    have := h.get _ _ e
    rw [Key.toNat_kn] at this
    exact this
  | const c =>
    simp only [cX] at hc
    split at hc
    · next z hz =>
      cases hc
      simp only [VX.eval, Option.some.injEq] at e
      subst e
      exact cCV_ok hz
    · cases hc
  | func f =>
    simp only [cX, Option.some.injEq] at hc
    subst hc
    simp only [VX.eval, Option.some.injEq] at e
    subst e
    exact ⟨[], [], rfl, .nil, .nil⟩
  | global g => simp [cX] at hc
theorem fetch_ok {φ : Emb} {N : Nat} {fr : Fr} {a : Act} (h : FrRel φ N fr a) : ∀ {xs : List Operand} {ys : List VX} {args : List AV}, cXs xs = some ys → fetch fr ys = some args → All₂ (ARel φ) args (xs.map a.eval)
  | [], ys, args, hc, e => by
    simp [cXs] at hc; subst hc
    simp [fetch] at e; subst e
    exact .nil
  | x :: xs, ys, args, hc, e => by
    unfold cXs at hc
    split at hc
    · next y hy =>
      split at hc
      · next ys' hys =>
        cases hc
        unfold fetch at e
        split at e
        · next v hv =>
          split at e
          · next vs hvs => cases e; exact .cons (cX_ok h hy hv) (fetch_ok h hys hvs)
          · cases e
        · cases e
      · cases hc
    · cases hc
theorem bool_of_rel {φ : Emb} {v : AV} {c : Bool} (h : ARel φ v (.bool c)) : v = .v (.s (.bool c)) := by
  cases v with
  | tup xs => obtain ⟨vs, e, _⟩ := h; cases e
  | v x => cases x with
    | agg cs => obtain ⟨vs, e, _⟩ := h; cases e
    | s y =>
      cases y with
      | bool b => have h : Value.bool c = .bool b := h; cases h; rfl
      | int k n => have h : Value.bool c = .int k n := h; cases h
      | str l => obtain ⟨_, e⟩ := h; cases e
      | ptr b o => obtain ⟨_, _, e⟩ := h; cases e
      | nilp => have h : Value.bool c = .pointer none := h; cases h
      | slice b o len es cap => obtain ⟨_, _, e, _⟩ := h; cases e
      | nils => have h : Value.bool c = .slice none 0 0 := h; cases h
      | map b => obtain ⟨_, _, e⟩ := h; cases e
      | nilm => have h : Value.bool c = .map none := h; cases h
      | func f fs cs => obtain ⟨_, _, e, _⟩ := h; cases e
      | nilf => have h : Value.bool c = .nilFunc := h; cases h
theorem wanted_ok {φ : Emb} {N : Nat} {fr : Fr} {a : Act} (h : FrRel φ N fr a) {ops : Array Oper} {o : Oper} {g : Option (Key × Bool)} (hc : cGuard ops o = some g) {c : Bool} (e : wantedV fr g = some c) :
    Region.wanted o (yielded ops a.tmps) = c := by
  unfold cGuard at hc
  split at hc
  · next hg => cases hc; simp only [wantedV, Option.some.injEq] at e; subst e; simp [Region.wanted, hg]
  · next j b hg =>
    split at hc
    · next t ht =>
      cases hc
      simp only [Region.wanted, hg, yielded, ht, Option.bind_some]
      unfold wantedV at e
      split at e
      · next e' => cases e'
      · next k b' e' =>
        cases e'
        split at e
        · next c' hf =>
          cases e
          have hr := h.get _ _ hf
          rw [Key.toNat_kn] at hr
          have hr : a.tmps.getD t undef = .bool c' := hr
          cases hb : a.tmps[t]? with
          | none => simp [Array.getD_eq_getD_getElem?, hb, undef] at hr
          | some v =>
            simp [Array.getD_eq_getD_getElem?, hb] at hr
            subst hr
            cases c' <;> cases b <;> rfl
        · next v hnb hf =>
          cases e
          have hr := h.get _ _ hf
          rw [Key.toNat_kn] at hr
          cases hb : a.tmps[t]? with
          | none => cases b <;> rfl
          | some u =>
            simp only [Array.getD_eq_getD_getElem?, hb, Option.getD_some] at hr
            cases u with
            | bool c2 => exact absurd (bool_of_rel hr ▸ hf) (by intro hh; exact hnb c2 (bool_of_rel hr))
            | _ => cases b <;> rfl
        · cases e
    · cases hc
def Post (φ : Emb) (h : Heap) (w : World) (h' : Heap) (w' : World) (R : Emb → Prop) : Prop :=
  ∃ φ', Sim φ' h'.get h'.next.toNat w' ∧ Ext φ h.get h.next.toNat w φ' h'.get h'.next.toNat w' ∧ R φ'
def Fresh (b : Key) (h : Heap) : Prop := h.get b = none ∧ ∀ c y, h.get c = some y → b ∉ y.anc
def Clean (h : Heap) : Prop := ∀ b : Key, h.next.toNat ≤ b.toNat → Fresh b h
structure CallOk (P : Program) (call : Caller) : Prop where
  dom : ∀ f args h r, call f args h = some r → ∃ fn, P.funcs[f]? = some fn ∧ (fn.name == "runtime.NumGoroutine") = false ∧ fn.body.isNone = false
  run : ∀ f args h v h', Clean h → call f args h = some (v, h') → ∀ φ w vs, Sim φ h.get h.next.toNat w → All₂ (ARel φ) args vs →
    Calls P f vs.toArray w fun e w' => ∃ v', e = .returned v' ∧ Post φ h w h' w' fun φ' => ARel φ' v v'
theorem callFunc_run {P : Program} {f : FuncId} {fn : Func} (hf : P.funcs[f]? = some fn) (hn : (fn.name == "runtime.NumGoroutine") = false) (hb : fn.body.isNone = false) (args : Array Value) (w : World) :
    (callFunc f args).run P w = .ok (.enter f args) w := by
  simp only [callFunc, Sem.run_bind, run_program, Result.andThen_ok, hf, hn, Bool.false_eq_true, if_false, hb, Sem.run_pure]
theorem ptrList_rel {φ : Emb} {l : List (Key × Nat)} {vs : List Value} (h : All₂ (PRel φ) l vs) : All₂ (ARel φ) (l.map (fun p => AV.v (.s (.ptr p.1 p.2)))) vs := by
  induction h with
  | nil => exact .nil
  | cons h _ ih => exact .cons h ih
theorem exec_call {P : Program} {w : World} {a : Act} {φ : Emb} {call : Caller} (hcall : CallOk P call) {c : Call} {act : VAct} {xs : List Operand} (hc : cCall P c = some (act, xs)) (hop : ∀ o, act ≠ .op o)
    {args : List AV} (ha : All₂ (ARel φ) args (xs.map a.eval)) {h h' : Heap} {v : AV} (hr : act.run call args h = some (v, h')) (dst : Option Tmp) (ty : TypeId) (pos : String) (af : Array Edge) (g : Option (Nat × Bool)) :
    ∃ (f : FuncId) (as : List AV) (vs : List Value), (execOp a.eval ⟨dst, .call c, ty, pos, af, g⟩).run P w = .ok (.enter f vs.toArray) w ∧ call f as h = some (v, h') ∧ All₂ (ARel φ) as vs := by
  obtain ⟨callee, A, ats⟩ := c
  have hval : ∀ x, callee = .value x → (∀ f, x ≠ .func f) → act = .callv ∧ xs = x :: A.toList := by
    rintro x rfl hnf
    simp only [cCall, Option.some.injEq, Prod.mk.injEq] at hc
    exact ⟨hc.1.symm, hc.2.symm⟩
  cases callee with
  | invoke r m => simp [cCall] at hc
  | builtin b =>
    exfalso
    have : ∃ o, act = .op o := by
      simp only [cCall] at hc
      split at hc <;> (first | (cases hc; exact ⟨_, rfl⟩) | skip)
      · split at hc
        · split at hc
          · cases hc
          · cases hc; exact ⟨_, rfl⟩
        · split at hc
          · cases hc
          · cases hc; exact ⟨_, rfl⟩
        · cases hc
      · next e _ =>
        cases hs : sizeT P e with
        | none => simp [hs] at hc
        | some n => simp [hs] at hc; exact ⟨_, hc.1.symm⟩
      · cases hc
    obtain ⟨o, rfl⟩ := this
    exact hop o rfl
  | value x =>
    by_cases hx : ∃ f, x = .func f
    · obtain ⟨f, rfl⟩ := hx
      simp only [cCall] at hc
      split at hc
      · next fn hf =>
        split at hc
        · cases hc
        · next hcond =>
          cases hc
          simp only [Bool.or_eq_true, not_or, Bool.not_eq_true] at hcond
          refine ⟨f, args, A.toList.map a.eval, ?_, hr, ha⟩
          have := callFunc_run hf hcond.1 hcond.2 (A.map a.eval) w
          simp only [execOp, resolve, Act.eval, Deferred.ofValue, Sem.run_bind, Sem.run_pure, Result.andThen_ok, invoke, Array.empty_append, Array.append_empty]
          rw [show (A.toList.map a.eval).toArray = A.map a.eval from by apply Array.ext'; simp]
          exact this
      · cases hc
    · obtain ⟨rfl, rfl⟩ := hval x rfl (fun f e => hx ⟨f, e⟩)
      simp only [VAct.run] at hr
      split at hr
      · next f fs cs as =>
        cases ha with
        | cons hf ha =>
        obtain ⟨vs, us, e1, h1, h2⟩ := hf
        obtain ⟨fn, g1, g2, g3⟩ := hcall.dom _ _ _ _ hr
        refine ⟨f, _, vs ++ A.toList.map a.eval ++ us, ?_, hr, ?_⟩
        · simp only [execOp, resolve, e1, Deferred.ofValue, Sem.run_bind, Sem.run_pure, Result.andThen_ok, invoke]
          rw [callFunc_run g1 g2 g3]
          congr 2
          apply Array.ext'; simp
        · refine forall₂_append (forall₂_append ?_ ha) ?_
          · exact ptrList_rel h1
          · exact ptrList_rel h2
      · cases hr
end Go.Vm
end
section
namespace Go.Vm
open Key (kn)
theorem cOper_spec {P : Program} {N : Nat} {ops : Array Oper} {o : Oper} {vo : VOper} (hc : cOper P N ops o = some vo) :
    dstOk N o = true ∧ vo.dst = o.dst.map kn ∧ (∃ g, cGuard ops o = some g ∧ vo.guard = g) ∧
      ((∃ act xs ys, cOp P o.op = some (act, xs) ∧ cXs xs = some ys ∧ vo.act = act ∧ vo.args = ys) ∨ (vo.act = .op .bad ∧ vo.args = [])) := by
  unfold cOper at hc
  split at hc
  · next hd =>
    split at hc
    · next g hg =>
      split at hc
      · next act xs hop =>
        split at hc
        · next ys hys => cases hc; exact ⟨hd, rfl, ⟨g, hg, rfl⟩, .inl ⟨act, xs, ys, hop, hys, rfl, rfl⟩⟩
        · cases hc; exact ⟨hd, rfl, ⟨g, hg, rfl⟩, .inr ⟨rfl, rfl⟩⟩
      · cases hc; exact ⟨hd, rfl, ⟨g, hg, rfl⟩, .inr ⟨rfl, rfl⟩⟩
    · cases hc
  · cases hc
section
variable {P : Program} {call : Caller}
def isOp : VAct → Bool
  | .op _ => true
  | _ => false
theorem all_map_op {α : Type} (x : Option α) (f : α → VOp) (g : α → List Operand) : (x.map fun y => (VAct.op (f y), g y)).all (fun p => isOp p.1) = true := by cases x <;> rfl
theorem all_flags (x : Operand) (lo hi mx : Option Operand) (k : SlK) : (optFlags x lo hi mx k).all (fun p => isOp p.1) = true := by
  unfold optFlags; split <;> rfl
theorem cOp_isOp {op : Op} (h : ∀ c, op ≠ .call c) : (cOp P op).all (fun p => isOp p.1) = true := by
  cases op with
  | call c => exact absurd rfl (h c)
  | _ =>
    simp only [cOp]
    repeat' (first | rfl | exact all_map_op _ _ _ | exact all_flags _ _ _ _ _ | (exfalso; exact h _ (by assumption)) | split)
theorem cOp_call {op : Op} {act : VAct} {xs : List Operand} (h : cOp P op = some (act, xs)) (hop : ∀ o, act ≠ .op o) : ∃ c, op = .call c ∧ cCall P c = some (act, xs) := by
  by_cases hc : ∃ c, op = .call c
  · obtain ⟨c, rfl⟩ := hc; exact ⟨c, rfl, h⟩
  · have := cOp_isOp (P := P) (op := op) (fun c e => hc ⟨c, e⟩)
    rw [h] at this
    cases act with
    | op o => exact absurd rfl (hop o)
    | _ => cases this
theorem act_step (hcall : CallOk P call) {N : Nat} {ops : Array Oper} {o : Oper} {vo : VOper} (hc : cOper P N ops o = some vo) {φ : Emb} {fr : Fr} {a : Act} {h h' : Heap} {nx : Nat} {w : World} (hfr : FrRel φ N fr a)
    (s : Sim φ h.get nx w) (hb : φ h.next = none) (hnx : (∀ o, vo.act ≠ .op o) → nx = h.next.toNat ∧ Clean h) {args : List AV} (hf : fetch fr vo.args = some args) {v : AV} (hr : vo.act.run call args h = some (v, h'))
    {K : Act → World → Prop} {Q : Exit → Act → World → Prop}
    (hK : ∀ v' w' φ', (∀ nx', nx ≤ nx' → h'.next.toNat ≤ nx' → Sim φ' h'.get nx' w') → Ext φ h.get h.next.toNat w φ' h'.get h'.next.toNat w' → ARel φ' v v' → K (a.put o.dst v') w') : o.wp P a w K Q := by
  obtain ⟨_, _, _, hact⟩ := cOper_spec hc
  rcases hact with ⟨act, xs, ys, hop, hys, ha, hargs⟩ | ⟨ha, hargs⟩
  · rw [ha] at hr hnx
    rw [hargs] at hf
    have hrel := fetch_ok hfr hys hf
    by_cases hisop : ∃ vop, act = .op vop
    · obtain ⟨vop, rfl⟩ := hisop
      obtain ⟨v', w', hd, φ', h1, h2, h3⟩ := ok_all P o.op vop xs hop o rfl φ h nx w a.eval args v h' hr s hb hrel
      unfold Oper.wp
      rcases hd with hd | ⟨hd, rfl⟩
      · rw [hd]; exact hK v' w' φ' h1 h2 h3
      · rw [hd]; exact hK undef w' φ' h1 h2 h3
    · have hne : ∀ o, act ≠ .op o := fun o e => hisop ⟨o, e⟩
      obtain ⟨c, hoc, hcc⟩ := cOp_call hop hne
      obtain ⟨hnx', hcl⟩ := hnx hne
      subst hnx'
      obtain ⟨dst, op, type, pos, after, guard⟩ := o
      simp only at hoc
      subst hoc
      obtain ⟨f, as, vs, e1, e2, e3⟩ := exec_call hcall hcc hne hrel hr dst type pos after guard (w := w)
      unfold Oper.wp
      rw [e1]
      refine Calls.mono (hcall.run f as h v h' hcl e2 φ w vs s e3) ?_
      rintro e w' ⟨v', rfl, φ', g1, g2, g3⟩
      exact hK v' w' φ' (fun nx' _ k => g1.up k) g2 g3
  · rw [ha] at hr
    simp [VAct.run, VOp.run] at hr
theorem oper_step (hcall : CallOk P call) {N : Nat} {ops : Array Oper} {o : Oper} {vo : VOper} (hc : cOper P N ops o = some vo) {φ : Emb} {fr fr' : Fr} {a : Act} {h h' : Heap} {w : World} (hfr : FrRel φ N fr a)
    (s : Sim φ h.get h.next.toNat w) (hcl : Clean h) (hr : vo.run call fr h = some (fr', h')) {K : Act → World → Prop} {Q : Exit → Act → World → Prop}
    (hK : ∀ a' w', (Post φ h w h' w' fun φ' => FrRel φ' N fr' a') → K a' w') :
    if Region.wanted o (yielded ops a.tmps) then o.wp P a w K Q ∨ (o.asks P a w ∧ LetsOut Q) else K (a.put o.dst undef) w := by
  obtain ⟨hd, hdst, ⟨g, hg, hvg⟩, _⟩ := cOper_spec hc
  have hb : φ h.next = none := s.fresh _ (Nat.le_refl _)
  unfold VOper.run at hr
  split at hr
  · next hw =>
    rw [hvg] at hw
    have hwant := wanted_ok hfr hg hw
    split at hr
    · next args hf =>
      split at hr
      · next v h2 hact =>
        cases hr
        rw [hwant, if_pos rfl]
        refine .inl (act_step hcall hc hfr s hb (fun _ => ⟨rfl, hcl⟩) hf hact fun v' w' φ' h1 h2 h3 => hK _ _ ⟨φ', h1 _ h2.nx (Nat.le_refl _), h2, ?_⟩)
        rw [hdst]
        exact (hfr.mono h2.le).put hd h3
      · cases hr
    · cases hr
  · next hw =>
    cases hr
    rw [hvg] at hw
    have hwant := wanted_ok hfr hg hw
    rw [hwant]
    simp only [Bool.false_eq_true, if_false]
    refine hK _ _ ⟨φ, s, Ext.refl _ _ _ _, ?_⟩
    rw [hdst]
    exact hfr.put hd ⟨[], rfl, .nil⟩
  · cases hr
theorem Post.trans {φ : Emb} {h h1 h2 : Heap} {w w1 w2 : World} {R : Emb → Prop} {φ1 : Emb} (e : Ext φ h.get h.next.toNat w φ1 h1.get h1.next.toNat w1) (p : Post φ1 h1 w1 h2 w2 R) : Post φ h w h2 w2 R := by
  obtain ⟨φ2, s, e2, r⟩ := p
  exact ⟨φ2, s, e.trans e2, r⟩
def KeepsOps (call : Caller) : Prop := ∀ (o : VOper) fr h fr' h', o.run call fr h = some (fr', h') → Clean h → Clean h'
theorem runOps_ok (hcall : CallOk P call) (hkeep : KeepsOps call) {N : Nat} {ops : Array Oper} {Q : Exit → Act → World → Prop} : ∀ (l : List Oper) (vs : List VOper), cOpers P N ops l = some vs → ∀ {φ : Emb} {fr fr' : Fr} {a : Act} {h h' : Heap} {w : World}, FrRel φ N fr a →
    Sim φ h.get h.next.toNat w → Clean h → runOps call vs fr h = some (fr', h') → (∀ a' w', (Post φ h w h' w' fun φ' => FrRel φ' N fr' a') → Q .normal a' w') → wpList P ops Q l a w
  | [], vs, hc, φ, fr, fr', a, h, h', w, hfr, s, hcl, hr, hQ => by
    simp [cOpers] at hc; subst hc
    simp [runOps] at hr
    obtain ⟨rfl, rfl⟩ := hr
    exact hQ _ _ ⟨φ, s, Ext.refl _ _ _ _, hfr⟩
  | o :: l, vs, hc, φ, fr, fr', a, h, h', w, hfr, s, hcl, hr, hQ => by
    unfold cOpers at hc
    split at hc
    · next vo hvo =>
      split at hc
      · next vl hvl =>
        cases hc
        unfold runOps at hr
        split at hr
        · next fr1 h1 h1r =>
          exact oper_step hcall hvo hfr s hcl h1r fun a' w' ⟨φ1, s1, e1, f1⟩ =>
            runOps_ok hcall hkeep l vl hvl f1 s1 (hkeep _ _ _ _ _ h1r hcl) hr fun a2 w2 p2 => hQ a2 w2 (p2.trans e1)
        · cases hr
      · cases hc
    · cases hc
end
def ExitRel : VExit → Exit → Prop
  | .normal, .normal => True
  | .exit i, .exit j => i = j
  | .ret, .ret => True
  | _, _ => False
def CodePost (φ : Emb) (N : Nat) (h : Heap) (w : World) (x : VExit) (fr' : Fr) (h' : Heap) : Exit → Act → World → Prop :=
  fun e a' w' => ExitRel x e ∧ Post φ h w h' w' fun φ' => FrRel φ' N fr' a'
def DrawnOk (P : Program) (call : Caller) : Prop :=
  ∀ (N id : Nat) (ops : Array Oper) (ds : List DOp), cRegion P N ops true = some (.drawn ds) → ∀ (φ : Emb) (fr fr' : Fr) (a : Act) (h h' : Heap) (w : World), FrRel φ N fr a → Sim φ h.get h.next.toNat w → Clean h →
    runDrawn call h.next (succs h.next (nAlloc ds)) ds h.next [] fr { h with next := succs h.next (nAlloc ds) } = some (fr', h') →
    (Code.region id ops true).wp P (CodePost φ N h w .normal fr' h') a w
theorem cRegion_false {P : Program} {N : Nat} {ops : Array Oper} {vc : VCode} (h : cRegion P N ops false = some vc) : ∃ vs, cOpers P N ops ops.toList = some vs ∧ vc = .region vs := by
  unfold cRegion at h
  split at h
  · next vs hvs => simp at h; exact ⟨vs, hvs, h.symm⟩
  · cases h
theorem cRegion_true {P : Program} {N : Nat} {ops : Array Oper} {vc : VCode} (h : cRegion P N ops true = some vc) : ∃ ds, vc = .drawn ds := by
  unfold cRegion at h
  split at h
  · next vs hvs =>
    simp only [if_true] at h
    split at h
    · next hok =>
      cases hd : dopsOf (masks ops.toList) (effIdx vs) vs (lateOrder (masks ops.toList) (effIdx vs) vs.length) with
      | none => simp [hd] at h
      | some ds => simp [hd] at h; exact ⟨ds, h.symm⟩
    · cases h
  · cases h
theorem exec_ok {P : Program} {F : Funcs} {O : Oracle} (hK : ∀ m, KeepsOps (callV F O (exec F O m))) (hE : ∀ m c fr h x fr' h', exec F O m c fr h = some (x, fr', h') → Clean h → Clean h') (N : Nat) : ∀ (n : Nat), (∀ m, m < n → CallOk P (callV F O (exec F O m)) ∧ DrawnOk P (callV F O (exec F O m))) → ∀ (c : Code) (vc : VCode), cCode P N c = some vc →
    ∀ (φ : Emb) (fr fr' : Fr) (a : Act) (h h' : Heap) (w : World) (x : VExit), FrRel φ N fr a → Sim φ h.get h.next.toNat w → Clean h → exec F O n vc fr h = some (x, fr', h') → c.wp P (CodePost φ N h w x fr' h') a w
  | 0, _, c, vc, hc, φ, fr, fr', a, h, h', w, x, hfr, s, hcl, hr => by simp [exec] at hr
  | n + 1, H, c, vc, hc, φ, fr, fr', a, h, h', w, x, hfr, s, hcl, hr => by
    have ih := exec_ok hK hE N n (fun m hm => H m (by omega))
    cases c with
    | skip =>
      simp only [cCode, Option.some.injEq] at hc
      subst hc
      simp only [exec, Option.some.injEq, Prod.mk.injEq] at hr
      obtain ⟨rfl, rfl, rfl⟩ := hr
      exact wp_skip ⟨trivial, φ, s, Ext.refl _ _ _ _, hfr⟩
    | region id ops draw =>
      cases draw with
      | false =>
        obtain ⟨vs, hvs, rfl⟩ := cRegion_false hc
        simp only [exec] at hr
        split at hr
        · next fr1 h1 hro =>
          cases hr
          exact wp_region_list (runOps_ok (H n (by omega)).1 (hK n) _ _ hvs hfr s hcl hro fun a' w' p => ⟨trivial, p⟩)
        · cases hr
      | true =>
        obtain ⟨ds, rfl⟩ := cRegion_true hc
        simp only [exec] at hr
        split at hr
        · next fr1 h1 hro =>
          cases hr
          exact (H n (by omega)).2 N id ops ds hc φ fr _ a h _ w hfr s hcl hro
        · cases hr
    | seq c1 c2 =>
      simp only [cCode] at hc
      split at hc
      · next v1 v2 h1 h2 =>
        cases hc
        simp only [exec] at hr
        split at hr
        · next fr1 h1' e1 =>
          refine wp_seq (wp_mono (ih c1 v1 h1 φ fr fr1 a h h1' w .normal hfr s hcl e1) ?_)
          rintro e a1 w1 ⟨hx, φ1, s1, x1, f1⟩
          cases e <;> simp only [ExitRel] at hx
          refine wp_mono (ih c2 v2 h2 φ1 fr1 fr' a1 h1' h' w1 x f1 s1 (hE _ _ _ _ _ _ _ e1 hcl) hr) ?_
          rintro e a2 w2 ⟨hx2, p2⟩
          exact ⟨hx2, p2.trans x1⟩
        · next hnn =>
          refine wp_seq (wp_mono (ih c1 v1 h1 φ fr fr' a h h' w x hfr s hcl hr) ?_)
          rintro e a1 w1 ⟨hx, p⟩
          cases e with
          | normal =>
            cases x <;> simp only [ExitRel] at hx
            exact absurd hr (hnn _ _)
          | _ => exact ⟨hx, p⟩
      · cases hc
    | cond c0 c1 c2 =>
      simp only [cCode] at hc
      split at hc
      · next v0 v1 v2 h0 h1 h2 =>
        cases hc
        simp only [exec] at hr
        split at hr
        · next e0 =>
          have e0' : a.eval c0 = .bool true := cX_ok hfr h0 e0
          exact wp_cond_true e0' (ih c1 v1 h1 φ fr fr' a h h' w x hfr s hcl hr)
        · next e0 =>
          have e0' : a.eval c0 = .bool false := cX_ok hfr h0 e0
          exact wp_cond_false e0' (ih c2 v2 h2 φ fr fr' a h h' w x hfr s hcl hr)
        · cases hr
      · cases hc
    | block id c1 =>
      simp only [cCode] at hc
      cases h1 : cCode P N c1 with
      | none => simp [h1] at hc
      | some v1 =>
        simp only [h1, Option.map_some, Option.some.injEq] at hc
        subst hc
        simp only [exec] at hr
        split at hr
        · next j fr1 h1' e1 =>
          refine wp_block (wp_mono (ih c1 v1 h1 φ fr fr1 a h h1' w (.exit j) hfr s hcl e1) ?_)
          rintro e a1 w1 ⟨hx, p⟩
          cases e <;> simp only [ExitRel] at hx
          subst hx
          simp only [Exit.inBlock]
          split at hr
          · next hj => cases hr; rw [if_pos hj]; exact ⟨trivial, p⟩
          · next hj => cases hr; rw [if_neg hj]; exact ⟨rfl, p⟩
        · next hnn =>
          refine wp_block (wp_mono (ih c1 v1 h1 φ fr fr' a h h' w x hfr s hcl hr) ?_)
          rintro e a1 w1 ⟨hx, p⟩
          cases e with
          | exit j =>
            cases x <;> simp only [ExitRel] at hx
            exact absurd hr (hnn _ _ _)
          | _ => exact ⟨hx, p⟩
    | loop c1 =>
      simp only [cCode] at hc
      cases h1 : cCode P N c1 with
      | none => simp [h1] at hc
      | some v1 =>
        simp only [h1, Option.map_some, Option.some.injEq] at hc
        subst hc
        have key : ∀ (m : Nat) (φ : Emb) (fr fr' : Fr) (a : Act) (h h' : Heap) (w : World) (x : VExit), m ≤ n + 1 → FrRel φ N fr a → Sim φ h.get h.next.toNat w → Clean h → exec F O m (.loop v1) fr h = some (x, fr', h') →
            Code.rounds P c1 (CodePost φ N h w x fr' h') m a w := by
          intro m
          induction m with
          | zero => intro φ fr fr' a h h' w x _ hfr s hcl hr; simp [exec] at hr
          | succ m ihm =>
            intro φ fr fr' a h h' w x hm hfr s hcl hr
            rw [rounds_succ]
            simp only [exec] at hr
            split at hr
            · next fr1 h1' e1 =>
              refine wp_mono (exec_ok hK hE N m (fun m' hm' => H m' (by omega)) c1 v1 h1 φ fr fr1 a h h1' w .normal hfr s hcl e1) ?_
              rintro e a1 w1 ⟨hx, φ1, s1, x1, f1⟩
              cases e <;> simp only [ExitRel] at hx
              have := ihm φ1 fr1 fr' a1 h1' h' w1 x (by omega) f1 s1 (hE _ _ _ _ _ _ _ e1 hcl) hr
              have mono : ∀ k a w0, Code.rounds P c1 (CodePost φ1 N h1' w1 x fr' h') k a w0 → Code.rounds P c1 (CodePost φ N h w x fr' h') k a w0 := by
                intro k
                induction k with
                | zero => intro a w0 hh; exact hh
                | succ k ihk =>
                  intro a w0 hh
                  rw [rounds_succ] at hh ⊢
                  refine wp_mono hh ?_
                  intro e a w hq
                  cases e with
                  | normal => exact ihk _ _ hq
                  | _ => exact ⟨hq.1, hq.2.trans x1⟩
              exact mono _ _ _ this
            · next hnn =>
              refine wp_mono (exec_ok hK hE N m (fun m' hm' => H m' (by omega)) c1 v1 h1 φ fr fr' a h h' w x hfr s hcl hr) ?_
              rintro e a1 w1 ⟨hx, p⟩
              cases e with
              | normal =>
                cases x <;> simp only [ExitRel] at hx
                exact absurd hr (hnn _ _)
              | _ => exact ⟨hx, p⟩
        exact wp_loop_rounds (n + 1) (key (n + 1) φ fr fr' a h h' w x (Nat.le_refl _) hfr s hcl hr)
    | exit id =>
      simp only [cCode, Option.some.injEq] at hc
      subst hc
      simp only [exec, Option.some.injEq, Prod.mk.injEq] at hr
      obtain ⟨rfl, rfl, rfl⟩ := hr
      exact wp_exit ⟨rfl, φ, s, Ext.refl _ _ _ _, hfr⟩
    | ret =>
      simp only [cCode, Option.some.injEq] at hc
      subst hc
      simp only [exec, Option.some.injEq, Prod.mk.injEq] at hr
      obtain ⟨rfl, rfl, rfl⟩ := hr
      exact wp_ret ⟨trivial, φ, s, Ext.refl _ _ _ _, hfr⟩
    | _ => simp [cCode] at hc
end Go.Vm
end
section
namespace Go.Vm
open Key (kn)
section
variable {P : Program} {φ : Emb} {w : World}
def resultOf (tmps : Array Value) : ResultVar → Sem Value
  | .tmp t => pure (tmps.getD t undef)
  | .cell a t => do loadVar t (← asAddr (tmps.getD a undef))
theorem resultV_ok {N : Nat} {fr : Fr} {a : Act} {h : Heap} {nx : Nat} (hfr : FrRel φ N fr a) (s : Sim φ h.get nx w) {r : ResultVar} {vr : VRes} (hc : cRes P r = some vr) {c : CV} (hr : resultV fr h vr = some c) :
    ∃ v, (resultOf a.tmps r).run P w = .ok v w ∧ CRel φ c v := by
  cases r with
  | tmp t =>
    simp only [cRes, Option.some.injEq] at hc
    subst hc
    simp only [resultV] at hr
    split at hr
    · next x hx =>
      cases hr
      have := hfr.get _ _ hx
      rw [Key.toNat_kn] at this
      exact ⟨_, rfl, this⟩
    · cases hr
  | cell t ty =>
    simp only [cRes] at hc
    split at hc
    · next hsh =>
      cases hc
      simp only [resultV] at hr
      split at hr
      · next b o hx =>
        split at hr
        · next x hread =>
          cases hr
          have hp := hfr.get _ _ hx
          rw [Key.toNat_kn] at hp
          obtain ⟨l, e1, e2⟩ := hp
          obtain ⟨_, vs, hv, hcell⟩ := s.read e1 hread
          obtain ⟨v, rfl, hv1⟩ : ∃ v, vs = [v] ∧ SRel φ x v := by
            cases hv with
            | cons h t => cases t; exact ⟨_, rfl, h⟩
          have hc0 := hcell 0 v rfl
          rw [addr_add] at hc0
          exact ⟨v, by simp only [resultOf, e2, asAddr, Sem.run_bind, Sem.run_pure, Result.andThen_ok, loadVar, shapeOf_none hsh, Bool.false_eq_true, if_false, run_load, show w.cell? ⟨l.blk, o + l.off, none⟩ = some v from hc0], hv1⟩
        · cases hr
      · cases hr
    · next n hsh =>
      cases hc
      simp only [resultV] at hr
      split at hr
      · next b o hx =>
        split at hr
        · next ls hread =>
          cases hr
          have hp := hfr.get _ _ hx
          rw [Key.toNat_kn] at hp
          obtain ⟨l, e1, e2⟩ := hp
          obtain ⟨hl, vs, hv, hcell⟩ := s.read e1 hread
          obtain ⟨h1, h2⟩ := shapeOf_some (w := w) hsh
          have hvl : vs.length = n := by rw [← forall₂_len hv, hl]
          have hload : (loadCells ⟨l.blk, o + l.off, none⟩ n).run P w = .ok vs.toArray w := by rw [← hvl]; exact run_loadCells_list w _ vs hcell
          exact ⟨.agg vs.toArray, by simp only [resultOf, e2, asAddr, Sem.run_bind, Sem.run_pure, Result.andThen_ok, loadVar, h1, if_true, run_sizeOf h2, hload], vs, rfl, hv⟩
        · cases hr
      · cases hr
    · cases hc
theorem resultsV_ok {N : Nat} {fr : Fr} {a : Act} {h : Heap} {nx : Nat} (hfr : FrRel φ N fr a) (s : Sim φ h.get nx w) : ∀ {rs : List ResultVar} {vrs : List VRes} {l : List CV}, cRess P rs = some vrs → resultsV fr h vrs = some l →
    ∃ vs, (rs.mapM (resultOf a.tmps)).run P w = .ok vs w ∧ All₂ (CRel φ) l vs
  | [], vrs, l, hc, hr => by
    simp [cRess] at hc; subst hc
    simp [resultsV] at hr; subst hr
    exact ⟨[], by simp, .nil⟩
  | r :: rs, vrs, l, hc, hr => by
    unfold cRess at hc
    split at hc
    · next vr hvr =>
      split at hc
      · next vrs' hvrs =>
        cases hc
        unfold resultsV at hr
        split at hr
        · next x hx =>
          split at hr
          · next xs hxs =>
            cases hr
            obtain ⟨v, h1, h2⟩ := resultV_ok hfr s hvr hx
            obtain ⟨vs, h3, h4⟩ := resultsV_ok hfr s hvrs hxs
            exact ⟨v :: vs, by simp [List.mapM_cons, h1, h3], .cons h2 h4⟩
          · cases hr
        · cases hr
      · cases hc
    · cases hc
theorem results_ok {N : Nat} {fn : Func} {fr : Fr} {a : Act} {h : Heap} {nx : Nat} (hfr : FrRel φ N fr a) (s : Sim φ h.get nx w) {vrs : List VRes} {l : List CV} (hc : cRess P fn.results.toList = some vrs) (hr : resultsV fr h vrs = some l) :
    ∃ v, (results fn a.tmps).run P w = .ok v w ∧ ARel φ (oneOrTup l) v := by
  obtain ⟨vs, h1, h2⟩ := resultsV_ok hfr s hc hr
  have hm : (fn.results.mapM (resultOf a.tmps)).run P w = .ok vs.toArray w := by
    rw [Array.mapM_eq_mapM_toList]
    simp [h1]
  have hres : results fn a.tmps = (do let vs ← fn.results.mapM (resultOf a.tmps); pure (if h : vs.size = 1 then vs[0] else .tuple vs)) := by
    unfold results
    congr 1
  rw [hres]
  simp only [Sem.run_bind, hm, Result.andThen_ok, Sem.run_pure]
  refine ⟨_, rfl, ?_⟩
  unfold oneOrTup
  split
  · next x =>
    cases h2 with
    | cons hx t => cases t; exact hx
  · next hne =>
    have hlen := forall₂_len h2
    have : ¬ (vs.toArray.size = 1) := by
      intro h
      have : l.length = 1 := by rw [hlen]; simpa using h
      match l, this with
      | [x], _ => exact hne x rfl
    rw [dif_neg this]
    exact ⟨vs, rfl, h2⟩
end
theorem entry_rel {φ : Emb} {args : List AV} {vs : List Value} (h : All₂ (ARel φ) args vs) (N : Nat) :
    FrRel φ N (Tr.z.putFrom 0 args) { tmps := vs.toArray ++ Array.replicate (N - vs.toArray.size) undef, defers := [] } := by
  refine ⟨by simp; omega, fun k v e => ?_, rfl⟩
  rw [← Key.kn_toNat k, Tr.get_putFrom] at e
  split at e
  · next hk =>
    simp only [Nat.sub_zero] at e
    obtain ⟨u, h1, h2⟩ := forall₂_get h _ e
    have hlt : k.toNat < vs.length := (List.getElem?_eq_some_iff.1 h1).1
    have : ((vs.toArray ++ Array.replicate (N - vs.toArray.size) undef).getD k.toNat undef) = u := by
      rw [Array.getD_eq_getD_getElem?, Array.getElem?_append_left (by simpa using hlt)]
      simp [h1]
    rw [this]; exact h2
  · simp at e
theorem cFunc_spec {P : Program} {fn : Func} {vf : VFunc} (h : cFunc P fn = some vf) : (fn.name == "runtime.NumGoroutine") = false ∧ ∃ c, fn.body = some c ∧ cCode P fn.ntmps c = some vf.body ∧ cRess P fn.results.toList = some vf.results := by
  unfold cFunc at h
  split at h
  · cases h
  · next hn =>
    split at h
    · next c hb =>
      split at h
      · next v rs h1 h2 => cases h; exact ⟨by simpa using hn, c, hb, h1, h2⟩
      · cases h
    · cases h
def Oracle.caller (O : Oracle) : Caller := fun f args h => match O f with
  | some g => g args h
  | none => none
theorem call_ok {P : Program} {F : Funcs} (hF : ∀ f vf, F f = some vf → funcsOf P f = some vf) {O : Oracle} (hK : ∀ m, KeepsOps (callV F O (exec F O m))) (hE : ∀ m c fr h x fr' h', exec F O m c fr h = some (x, fr', h') → Clean h → Clean h') (hO : CallOk P O.caller) (n : Nat) (H : ∀ m, m < n → CallOk P (callV F O (exec F O m)) ∧ DrawnOk P (callV F O (exec F O m))) :
    CallOk P (callV F O (exec F O n)) := by
  refine ⟨fun f args h r hr => ?_, fun f args h v h' hcl hr φ w vs s ha => ?_⟩
  · unfold callV at hr
    split at hr
    · next g ho => exact hO.dom f args h r (by simp only [Oracle.caller, ho]; exact hr)
    · split at hr
      · next vf hf =>
        have hf := hF _ _ hf
        unfold funcsOf at hf
        cases hfn : P.funcs[f]? with
        | none => simp [hfn] at hf
        | some fn =>
          simp [hfn] at hf
          obtain ⟨h1, c, h2, _⟩ := cFunc_spec hf
          exact ⟨fn, rfl, h1, by simp [h2]⟩
      · cases hr
  · unfold callV at hr
    split at hr
    · next g ho => exact hO.run f args h v h' hcl (by simp only [Oracle.caller, ho]; exact hr) φ w vs s ha
    · split at hr
      · next vf hf =>
        have hf := hF _ _ hf
        unfold funcsOf at hf
        cases hfn : P.funcs[f]? with
        | none => simp [hfn] at hf
        | some fn =>
          simp [hfn] at hf
          obtain ⟨_, c, hb, hcode, hres⟩ := cFunc_spec hf
          split at hr
          · cases hr
          · next x fr h2 hne hex =>
            split at hr
            · next l hl =>
              cases hr
              refine calls_of_wp hfn hb (wp_mono (exec_ok hK hE fn.ntmps n H c vf.body hcode φ _ fr _ h h' w x (entry_rel ha fn.ntmps) s hcl hex) ?_)
              rintro e a w' ⟨hx, φ', s', x', f'⟩
              obtain ⟨v', e1, e2⟩ := results_ok (P := P) f' s' hres hl
              have hgoal : bodyPost P fn (fun e w' => ∃ v', e = .returned v' ∧ Post φ h w h' w' fun φ' => ARel φ' (oneOrTup l) v') .ret a w' := ⟨f'.defers, v', e1, v', rfl, φ', s', x', e2⟩
              cases e with
              | normal => exact hgoal
              | ret => exact hgoal
              | exit i =>
                cases x with
                | exit j => exact (hne j rfl).elim
                | _ => exact hx.elim
              | _ => cases x <;> exact hx.elim
            · cases hr
          · cases hr
      · cases hr
end Go.Vm
end
section
namespace Go.Vm
open Key (kn)
def Nice {α : Type} (f : Heap → Option (α × Heap)) : Prop :=
  ∀ h v h', f h = some (v, h') → h.next.toNat ≤ h'.next.toNat ∧ ∀ b x, b.toNat < h.next.toNat → Fresh b h → Fresh b h' ∧ f (h.upd b (some x)) = some (v, h'.upd b (some x))
section
variable {h : Heap} {b : Key} {x : Blk}
theorem upd_get_ne {c : Key} (hne : b ≠ c) (y : Option Blk) : (h.upd b y).get c = h.get c := by rw [get_upd]; simp [hne]
theorem Fresh.ne {c : Key} {y : Blk} (hf : Fresh b h) (hc : h.get c = some y) : b ≠ c := by
  rintro rfl; rw [hf.1] at hc; cases hc
theorem Fresh.get {c : Key} {y : Blk} (hf : Fresh b h) (hc : h.get c = some y) : (h.upd b (some x)).get c = some y := by
  rw [upd_get_ne (hf.ne hc)]; exact hc
theorem Fresh.cells {c : Key} {p : Tr SV × Nat} (hf : Fresh b h) (hc : h.cells c = some p) : (h.upd b (some x)).cells c = some p := by
  obtain ⟨own, anc, hg⟩ := cells_of (c := p.1) (m := p.2) hc
  unfold Heap.cells
  rw [hf.get hg]
theorem Fresh.read {c : Key} {o n : Nat} {l : List SV} (hf : Fresh b h) (hr : h.read c o n = some l) : (h.upd b (some x)).read c o n = some l := by
  unfold Heap.read at hr ⊢
  split at hr
  · next h0 => rw [if_pos h0]; exact hr
  · next h0 =>
    rw [if_neg h0]
    split at hr
    · next cc m hc => rw [hf.cells hc]; exact hr
    · cases hr
theorem upd_upd_comm {c : Key} (hne : b ≠ c) (y z : Option Blk) : (h.upd b y).upd c z = (h.upd c z).upd b y := by
  simp only [Heap.upd]; rw [Tr.upd_comm _ _ _ hne]
theorem killAll_upd : ∀ (anc : List Key) (h : Heap), b ∉ anc → ∀ y, (h.upd b y).killAll anc = (h.killAll anc).upd b y
  | [], _, _, _ => rfl
  | c :: l, h, hn, y => by
    simp only [List.mem_cons, not_or] at hn
    rw [Heap.killAll, Heap.killAll, upd_upd_comm hn.1, killAll_upd l _ hn.2]
theorem newB_upd (y : Blk) (z : Option Blk) (hne : b ≠ h.next) : (h.upd b z).newB y = (h.newB y).upd b z := by
  simp only [Heap.newB, Heap.upd]; rw [Tr.upd_comm _ _ _ hne]
theorem upd_next (z : Option Blk) : (h.upd b z).next = h.next := rfl
theorem newB_next (y : Blk) : (h.newB y).next = h.next.succ := rfl
theorem lt_ne {c : Key} (hlt : b.toNat < c.toNat) : b ≠ c := by rintro rfl; omega
theorem Fresh.upd {c : Key} (hf : Fresh b h) (hne : b ≠ c) (y : Option Blk) (hy : ∀ z, y = some z → b ∉ z.anc) : Fresh b (h.upd c y) := by
  refine ⟨by rw [upd_get_ne (Ne.symm hne)]; exact hf.1, fun d z hd => ?_⟩
  rw [get_upd] at hd
  by_cases hc : c = d
  · simp only [hc, if_true] at hd; exact hy z hd
  · simp only [hc, if_false] at hd; exact hf.2 d z hd
theorem Fresh.newB (hf : Fresh b h) (hlt : b.toNat < h.next.toNat) (y : Blk) (hy : b ∉ y.anc) : Fresh b (h.newB y) := by
  have hne := lt_ne hlt
  refine ⟨?_, fun d z hd => ?_⟩
  · rw [get_newB]; simp [Ne.symm hne, hf.1]
  · rw [get_newB] at hd
    by_cases hc : h.next = d
    · simp only [hc, if_true, Option.some.injEq] at hd; subst hd; exact hy
    · simp only [hc, if_false] at hd; exact hf.2 d z hd
theorem Fresh.killAll : ∀ (anc : List Key) {h : Heap}, Fresh b h → b ∉ anc → Fresh b (h.killAll anc)
  | [], _, hf, _ => hf
  | c :: l, h, hf, hn => by
    simp only [List.mem_cons, not_or] at hn
    exact Fresh.killAll l (hf.upd hn.1 none (by simp)) hn.2
theorem nice_write (c : Key) (o : Nat) (l : List SV) {h' : Heap} (e : h.write c o l = some h') : h'.next = h.next ∧ ∀ b x, Fresh b h → Fresh b h' ∧ (h.upd b (some x)).write c o l = some (h'.upd b (some x)) := by
  unfold Heap.write at e
  split at e
  · next cc m anc hg =>
    split at e
    · next hle =>
      cases e
      refine ⟨by simp [Heap.upd, killAll_next], fun b x hf => ⟨(hf.killAll anc (hf.2 _ _ hg)).upd (hf.ne hg) _ (by simp), ?_⟩⟩
      unfold Heap.write
      rw [hf.get hg]
      simp only [hle, if_true]
      rw [killAll_upd anc h (hf.2 _ _ hg), upd_upd_comm (hf.ne hg)]
    · cases e
  · cases e
theorem nice_renew (c : Key) (o k : Nat) (l : List SV) {p : Key × Heap} (e : h.renew c o k l = some p) : p.1 = h.next ∧ p.2.next = h.next.succ ∧ ∀ b x, b.toNat < h.next.toNat → Fresh b h → Fresh b p.2 ∧ (h.upd b (some x)).renew c o k l = some (p.1, p.2.upd b (some x)) := by
  unfold Heap.renew at e
  split at e
  · next h0 =>
    cases e
    refine ⟨rfl, rfl, fun b x hlt hf => ⟨hf.newB hlt _ (by simp), ?_⟩⟩
    unfold Heap.renew
    rw [if_pos h0]
    simp only [Heap.new, upd_next]
    rw [newB_upd _ _ (lt_ne hlt)]
  · next h0 =>
    split at e
    · next cc m hc =>
      split at e
      · next body hb =>
        cases e
        refine ⟨rfl, rfl, fun b x hlt hf => ⟨hf.newB hlt _ (by simp), ?_⟩⟩
        unfold Heap.renew
        rw [if_neg h0, hf.cells hc]
        simp only [hb, Heap.new, upd_next]
        rw [newB_upd _ _ (lt_ne hlt)]
      · cases e
    · cases e
theorem nice_grow (c : Key) (o k : Nat) (l : List SV) {p : Key × Heap} (e : h.grow c o k l = some p) : p.1 = h.next ∧ p.2.next = h.next.succ ∧ ∀ b x, b.toNat < h.next.toNat → Fresh b h → Fresh b p.2 ∧ (h.upd b (some x)).grow c o k l = some (p.1, p.2.upd b (some x)) := by
  unfold Heap.grow at e
  split at e
  · next cc m anc hg =>
    split at e
    · next body hb =>
      split at e
      · next hm =>
        cases e
        refine ⟨rfl, rfl, fun b x hlt hf => ?_⟩
        have hne := hf.ne hg
        have hna := hf.2 _ _ hg
        refine ⟨(hf.upd hne _ (by simpa using hna)).newB hlt _ (by simpa using ⟨hne, hna⟩), ?_⟩
        unfold Heap.grow
        rw [hf.get hg]
        simp only [hb, hm, if_true, upd_next]
        rw [upd_upd_comm hne, newB_upd _ _ (show b ≠ (h.upd c (some ⟨.cells cc m, false, anc⟩)).next from lt_ne hlt)]
      · next hm =>
        cases e
        refine ⟨rfl, by simp [Heap.newB, Heap.upd, killAll_next], fun b x hlt hf => ?_⟩
        have hne := hf.ne hg
        have hna := hf.2 _ _ hg
        have hlt' : b.toNat < ((h.killAll anc).upd c none).next.toNat := by simp only [Heap.upd, killAll_next]; exact hlt
        refine ⟨((hf.killAll anc hna).upd hne none (by simp)).newB hlt' _ (by simp), ?_⟩
        unfold Heap.grow
        rw [hf.get hg]
        simp only [hb, hm, if_false, upd_next]
        rw [killAll_upd anc h hna, upd_upd_comm hne, newB_upd _ _ (lt_ne hlt')]
    · cases e
  · cases e
end
theorem nice_src {h : Heap} {b : Key} {x : Blk} (hf : Fresh b h) {es : Nat} {sv : SV} {r : List SV × Nat} (e : srcCells h es sv = some r) : srcCells (h.upd b (some x)) es sv = some r := by
  unfold srcCells at e ⊢
  split at e
  · exact e
  · split at e
    · next hes =>
      rw [if_pos hes]
      split at e
      · next l hr => rw [hf.read hr]; exact e
      · cases e
    · cases e
  · exact e
  · cases e
theorem nice_same {α : Type} {f : Heap → Option (α × Heap)} (h1 : ∀ h v h', f h = some (v, h') → h' = h ∧ ∀ b x, Fresh b h → f (h.upd b (some x)) = some (v, h.upd b (some x))) : Nice f := by
  intro h v h' e
  obtain ⟨rfl, h2⟩ := h1 h v h' e
  exact ⟨Nat.le_refl _, fun b x _ hf => ⟨hf, h2 b x hf⟩⟩
theorem nice_new {α : Type} {f : Heap → Option (α × Heap)} (h1 : ∀ h v h', f h = some (v, h') → ∃ y : Blk, y.anc = [] ∧ h' = h.newB y ∧ ∀ b x, b.toNat < h.next.toNat → Fresh b h → f (h.upd b (some x)) = some (v, (h.upd b (some x)).newB y)) : Nice f := by
  intro h v h' e
  obtain ⟨y, hy, rfl, h2⟩ := h1 h v h' e
  refine ⟨by rw [newB_next, Key.toNat_succ]; omega, fun b x hlt hf => ⟨hf.newB hlt y (by simp [hy]), ?_⟩⟩
  rw [h2 b x hlt hf, newB_upd _ _ (lt_ne hlt)]
theorem nice_noHeapS {h : Heap} {x : Option SV} {v : AV} {h' : Heap} (e : noHeapS h x = some (v, h')) : h' = h ∧ ∀ h2, noHeapS h2 x = some (v, h2) := by
  unfold noHeapS at e
  split at e
  · cases e; exact ⟨rfl, fun _ => rfl⟩
  · cases e
theorem nice_noHeap {h : Heap} {x : Option CV} {v : AV} {h' : Heap} (e : noHeap h x = some (v, h')) : h' = h ∧ ∀ h2, noHeap h2 x = some (v, h2) := by
  unfold noHeap at e
  split at e
  · cases e; exact ⟨rfl, fun _ => rfl⟩
  · cases e
def Blind (op : VOp) : Prop := ∀ args h v h', op.run args h = some (v, h') → h' = h ∧ ∀ h2, op.run args h2 = some (v, h2)
def blindOp : VOp → Bool
  | .mov | .pick | .build .. | .nilchk | .bin _ | .eq .. | .un _ | .conv _ | .mkfunc .. | .slice .. | .faddr _ | .field .. | .iarr .. | .isl _ | .idx .. | .sidx | .extract _ | .lens | .lenstr | .lenarr _ | .cap | .minmax _ | .bad | .srange | .snext => true
  | _ => false
theorem blind_ok {op : VOp} (hb : blindOp op = true) : Blind op := by
  intro args h v h' e
  cases op <;> simp only [blindOp, Bool.false_eq_true] at hb <;> simp only [VOp.run] at e ⊢
  case mov => unfold rMov at e; split at e <;> cases e; exact ⟨rfl, fun _ => rfl⟩
  case pick => unfold rPick at e; split at e <;> cases e; exact ⟨rfl, fun _ => rfl⟩
  case build z p =>
    unfold rBuild at e ⊢
    split at e
    · next cs hl => cases e; exact ⟨rfl, fun _ => rfl⟩
    · cases e
  case nilchk => unfold rNilchk at e; split at e <;> cases e <;> exact ⟨rfl, fun _ => rfl⟩
  case bin b => unfold rBin at e; split at e; exact nice_noHeapS e; cases e
  case eq n k =>
    unfold rEq at e
    split at e
    · split at e
      · next r hr => cases e; exact ⟨rfl, fun _ => by unfold rEq; simp only [hr]⟩
      · cases e
    · cases e
  case un u => unfold rUn at e; split at e; exact nice_noHeapS e; cases e
  case conv k => unfold rConv at e; split at e <;> cases e; exact ⟨rfl, fun _ => rfl⟩
  case mkfunc f n =>
    unfold rMkfunc at e ⊢
    split at e
    · cases e; exact ⟨rfl, fun _ => rfl⟩
    · cases e
  case slice k lo hi mx =>
    unfold rSlice at e
    split at e
    · next x xs =>
      split at e
      · next bs hbs =>
        split at e
        · split at e
          · cases e
          · next hmx =>
            split at e
            · next a b c hbd => cases e; exact ⟨rfl, fun _ => by unfold rSlice; simp only [hbs, hbd]; rw [if_neg hmx]⟩
            · cases e
        · have := nice_noHeapS e; exact ⟨this.1, fun h2 => by unfold rSlice; simp only [hbs]; exact this.2 h2⟩
        · have := nice_noHeapS e; exact ⟨this.1, fun h2 => by unfold rSlice; simp only [hbs]; exact this.2 h2⟩
        · cases e
      · cases e
    · cases e
  case faddr off => unfold rFaddr at e; split at e <;> cases e; exact ⟨rfl, fun _ => rfl⟩
  case field off n => unfold rField at e; split at e; exact nice_noHeap e; cases e
  case iarr n es =>
    unfold rIarr at e
    split at e
    · split at e
      · next hc => cases e; exact ⟨rfl, fun _ => by unfold rIarr; simp only [hc, and_self, if_true]⟩
      · cases e
    · cases e
  case isl es =>
    unfold rIsl at e
    split at e
    · split at e
      · next hc => cases e; exact ⟨rfl, fun _ => by unfold rIsl; simp only [hc, and_self, if_true]⟩
      · cases e
    · cases e
  case idx n es m =>
    unfold rIdx at e
    split at e
    · split at e
      · next hc => have := nice_noHeap e; exact ⟨this.1, fun h2 => by unfold rIdx; simp only [hc, and_self, if_true]; exact this.2 h2⟩
      · cases e
    · cases e
  case sidx =>
    unfold rSidx at e
    split at e
    · split at e
      · next hc =>
        split at e
        · next n hn => cases e; exact ⟨rfl, fun _ => by unfold rSidx; simp only [hc, if_true, hn]⟩
        · cases e
      · cases e
    · cases e
  case extract i => unfold rExtract at e; split at e; exact nice_noHeap e; cases e
  case lens => unfold rLens at e; split at e <;> cases e <;> exact ⟨rfl, fun _ => rfl⟩
  case lenstr => unfold rLenstr at e; split at e <;> cases e; exact ⟨rfl, fun _ => rfl⟩
  case lenarr n => unfold rLenarr at e; split at e <;> cases e; exact ⟨rfl, fun _ => rfl⟩
  case cap => unfold rCap at e; split at e <;> cases e <;> exact ⟨rfl, fun _ => rfl⟩
  case minmax m => unfold rMinmax at e; split at e; exact nice_noHeapS e; cases e
  all_goals cases e
end Go.Vm
end
section
namespace Go.Vm
open Key (kn)
theorem nice_op (op : VOp) (args : List AV) : Nice (op.run args) := by
  by_cases hbl : blindOp op = true
  · exact nice_same fun h v h' e => by
      obtain ⟨h1, h2⟩ := blind_ok hbl args h v h' e
      exact ⟨h1, fun b x _ => h2 _⟩
  · cases op <;> simp only [blindOp, not_true_eq_false] at hbl
    case newz zs =>
      refine nice_new fun h v h' e => ?_
      simp only [VOp.run] at e ⊢
      unfold rNewz at e
      split at e
      · cases e; exact ⟨_, rfl, rfl, fun b x _ _ => rfl⟩
      · cases e
    case box n =>
      refine nice_new fun h v h' e => ?_
      simp only [VOp.run] at e ⊢
      unfold rBox at e
      split at e
      · split at e
        · next hc => cases e; exact ⟨_, rfl, rfl, fun b x _ _ => by unfold rBox; simp only [hc, if_true, upd_next]; rfl⟩
        · cases e
      · cases e
    case bslice es len z p =>
      refine nice_new fun h v h' e => ?_
      simp only [VOp.run] at e ⊢
      unfold rBslice at e ⊢
      split at e
      · next cs hl => cases e; exact ⟨_, rfl, rfl, fun b x _ _ => by simp only [upd_next]; rfl⟩
      · cases e
    case load1 =>
      refine nice_same fun h v h' e => ?_
      simp only [VOp.run] at e ⊢
      unfold rLoad1 at e
      split at e
      · split at e
        · next y hr => cases e; exact ⟨rfl, fun b x hf => by unfold rLoad1; simp only [hf.read hr]⟩
        · cases e
      · cases e
    case loadn n =>
      refine nice_same fun h v h' e => ?_
      simp only [VOp.run] at e ⊢
      unfold rLoadn at e
      split at e
      · split at e
        · next y hr => cases e; exact ⟨rfl, fun b x hf => by unfold rLoadn; simp only [hf.read hr]⟩
        · cases e
      · cases e
    case store n =>
      intro h v h' e
      simp only [VOp.run] at e ⊢
      unfold rStore at e
      split at e
      · split at e
        · next hc =>
          split at e
          · next h2 hw =>
            cases e
            obtain ⟨h3, h4⟩ := nice_write _ _ _ hw
            refine ⟨by rw [h3]; exact Nat.le_refl _, fun b x _ hf => ⟨(h4 b x hf).1, ?_⟩⟩
            unfold rStore
            simp only [hc, if_true, (h4 b x hf).2]
          · cases e
        · cases e
      · cases e
    case s2b =>
      refine nice_new fun h v h' e => ?_
      simp only [VOp.run] at e ⊢
      unfold rS2b at e
      split at e
      · split at e
        · next hc => cases e; exact ⟨_, rfl, rfl, fun b x _ _ => by unfold rS2b; simp only [hc, if_true, upd_next]⟩
        · cases e
      · cases e
    case b2s =>
      refine nice_same fun h v h' e => ?_
      simp only [VOp.run] at e ⊢
      unfold rB2s at e
      split at e
      · split at e
        · next l n hs =>
          split at e
          · next l2 hl => cases e; exact ⟨rfl, fun b x hf => by unfold rB2s; simp only [nice_src hf hs, hl]⟩
          · cases e
        · cases e
      · cases e; exact ⟨rfl, fun b x hf => rfl⟩
      · cases e
    case mkmap =>
      refine nice_new fun h v h' e => ?_
      simp only [VOp.run] at e ⊢
      unfold rMkmap at e
      split at e
      · cases e; exact ⟨_, rfl, rfl, fun b x _ _ => rfl⟩
      · cases e; exact ⟨_, rfl, rfl, fun b x _ _ => rfl⟩
      · cases e
    case mkslice es by' z =>
      refine nice_new fun h v h' e => ?_
      simp only [VOp.run] at e ⊢
      unfold rMkslice at e
      split at e
      · split at e
        · next hc => cases e; exact ⟨_, rfl, rfl, fun b x _ _ => by unfold rMkslice; simp only [hc, and_self, if_true, upd_next]; rfl⟩
        · cases e
      · cases e
    case lookup ks z ok =>
      refine nice_same fun h v h' e => ?_
      simp only [VOp.run] at e ⊢
      unfold rLookup at e
      split at e
      · split at e
        · next hc => cases e; exact ⟨rfl, fun b x hf => by unfold rLookup; simp only [hc, if_true]⟩
        · cases e
      · split at e
        · next hc =>
          split at e
          · next l own anc hg =>
            split at e
            · next r hr => cases e; exact ⟨rfl, fun b x hf => by unfold rLookup; simp only [hc, if_true, hf.get hg, hr]⟩
            · cases e
          · cases e
        · cases e
      · cases e
    case mapset ks =>
      intro h v h' e
      simp only [VOp.run] at e ⊢
      unfold rMapset at e
      split at e
      · split at e
        · next hc =>
          split at e
          · next l hg =>
            split at e
            · next l2 hl =>
              cases e
              refine ⟨Nat.le_refl _, fun b x _ hf => ⟨hf.upd (hf.ne hg) _ (by simp), ?_⟩⟩
              unfold rMapset
              simp only [hc, if_true, hf.get hg, hl]
              rw [upd_upd_comm (hf.ne hg)]
            · cases e
          · cases e
        · cases e
      · cases e
    case lenm =>
      refine nice_same fun h v h' e => ?_
      simp only [VOp.run] at e ⊢
      unfold rLenm at e
      split at e
      · cases e; exact ⟨rfl, fun b x hf => rfl⟩
      · split at e
        · next l own anc hg => cases e; exact ⟨rfl, fun b x hf => by unfold rLenm; simp only [hf.get hg]⟩
        · cases e
      · cases e
    case append es by' =>
      intro h v h' e
      simp only [VOp.run] at e ⊢
      unfold rAppend at e
      split at e
      · next s x0 =>
        split at e
        · next new n hs =>
          split at e
          · next r h2 ha =>
            cases e
            have key : h.next.toNat ≤ h'.next.toNat ∧ ∀ b x, b.toNat < h.next.toNat → Fresh b h → Fresh b h' ∧ appendV (h.upd b (some x)) es by' s new n = some (r, h'.upd b (some x)) := by
              unfold appendV at ha
              split at ha
              · split at ha
                · next hn => cases ha; exact ⟨Nat.le_refl _, fun b x _ hf => ⟨hf, by unfold appendV; simp only [hn, if_true]⟩⟩
                · next hn =>
                  split at ha
                  · next hroom =>
                    cases ha
                    refine ⟨by simp only [Heap.new, newB_next, Key.toNat_succ]; omega, fun b x hlt hf => ⟨hf.newB hlt _ (by simp), ?_⟩⟩
                    unfold appendV
                    simp only [hn, if_false, hroom, if_true, Heap.new, upd_next]
                    rw [newB_upd _ _ (lt_ne hlt)]
                  · cases ha
              · split at ha
                · next hes =>
                  split at ha
                  · next hn => cases ha; exact ⟨Nat.le_refl _, fun b x _ hf => ⟨hf, by unfold appendV; simp only [hn, if_true, hes]⟩⟩
                  · next hn =>
                    split at ha
                    · next c =>
                      split at ha
                      · next hle =>
                        split at ha
                        · next h3 hw =>
                          cases ha
                          obtain ⟨g1, g2⟩ := nice_write _ _ _ hw
                          refine ⟨by rw [g1]; exact Nat.le_refl _, fun b x _ hf => ⟨(g2 b x hf).1, ?_⟩⟩
                          unfold appendV
                          simp only [hes, if_true, hn, if_false, hle]
                          rw [hes] at g2
                          simp only [(g2 b x hf).2]
                        · cases ha
                      · next hle =>
                        split at ha
                        · next hroom =>
                          split at ha
                          · next b2 h3 hw =>
                            cases ha
                            obtain ⟨g1, g2, g3⟩ := nice_renew _ _ _ _ hw
                            refine ⟨by rw [g2, Key.toNat_succ]; omega, fun b x hlt hf => ⟨(g3 b x hlt hf).1, ?_⟩⟩
                            unfold appendV
                            simp only [hes, if_true, hn, if_false, hle, hroom]
                            rw [hes] at g3
                            simp only [(g3 b x hlt hf).2]
                          · cases ha
                        · cases ha
                    · split at ha
                      · next hroom =>
                        split at ha
                        · next b2 h3 hw =>
                          cases ha
                          obtain ⟨g1, g2, g3⟩ := nice_grow _ _ _ _ hw
                          refine ⟨by rw [g2, Key.toNat_succ]; omega, fun b x hlt hf => ⟨(g3 b x hlt hf).1, ?_⟩⟩
                          unfold appendV
                          simp only [hes, if_true, hn, if_false, hroom]
                          rw [hes] at g3
                          simp only [(g3 b x hlt hf).2]
                        · cases ha
                      · cases ha
                · cases ha
              · cases ha
            refine ⟨key.1, fun b x hlt hf => ⟨(key.2 b x hlt hf).1, ?_⟩⟩
            unfold rAppend
            simp only [nice_src hf hs, (key.2 b x hlt hf).2]
          · cases e
        · cases e
      · cases e
    case copy es =>
      intro h v h' e
      simp only [VOp.run] at e ⊢
      unfold rCopy at e
      split at e
      · next d x0 =>
        split at e
        · next src n hs =>
          split at e
          · cases e; exact ⟨Nat.le_refl _, fun b x _ hf => ⟨hf, by unfold rCopy; simp only [nice_src hf hs]⟩⟩
          · split at e
            · next hes =>
              split at e
              · next hm => cases e; exact ⟨Nat.le_refl _, fun b x _ hf => ⟨hf, by unfold rCopy; simp only [nice_src hf hs]; rw [if_pos hes, if_pos hm]⟩⟩
              · next hm =>
                split at e
                · next h3 hw =>
                  cases e
                  obtain ⟨g1, g2⟩ := nice_write _ _ _ hw
                  refine ⟨by rw [g1]; exact Nat.le_refl _, fun b x _ hf => ⟨(g2 b x hf).1, ?_⟩⟩
                  unfold rCopy
                  simp only [nice_src hf hs]
                  rw [if_pos hes, if_neg hm]
                  simp only [(g2 b x hf).2]
                · cases e
            · cases e
          · cases e
        · cases e
      · cases e
    case mrange =>
      refine nice_new fun h v h' e => ?_
      simp only [VOp.run] at e ⊢
      unfold rMrange at e
      split at e
      · split at e
        · next l own anc hg =>
          split at e
          · next hc => cases e; exact ⟨_, rfl, rfl, fun b x _ hf => by unfold rMrange; simp only [hf.get hg, hc, if_true, upd_next]; rfl⟩
          · cases e
        · cases e
      · cases e
    case mnext =>
      intro h v h' e
      simp only [VOp.run] at e ⊢
      unfold rMnext at e
      split at e
      · split at e
        · next b0 n st hg =>
          split at e
          · next l own anc hg2 =>
            split at e
            · next hl =>
              split at e
              · cases e
                refine ⟨Nat.le_refl _, fun b x _ hf => ⟨hf.upd (hf.ne hg) _ (by simp), ?_⟩⟩
                unfold rMnext
                simp only [hf.get hg, hf.get hg2, hl, if_true]
                rw [upd_upd_comm (hf.ne hg)]
              · cases e; exact ⟨Nat.le_refl _, fun b x _ hf => ⟨hf, by unfold rMnext; simp only [hf.get hg, hf.get hg2, hl, if_true]⟩⟩
              · cases e; exact ⟨Nat.le_refl _, fun b x _ hf => ⟨hf, by unfold rMnext; simp only [hf.get hg, hf.get hg2, hl, if_true]⟩⟩
              · cases e
            · cases e
          · cases e
        · cases e
      · cases e
    case mentry =>
      refine nice_same fun h v h' e => ?_
      simp only [VOp.run] at e ⊢
      unfold rMentry at e
      split at e
      · split at e
        · next b0 n own anc hg =>
          split at e
          · next k v own2 anc2 hg2 =>
            split at e
            · next hn => cases e; exact ⟨rfl, fun b x hf => by unfold rMentry; simp only [hf.get hg, hf.get hg2, hn, if_true]⟩
            · cases e
          · cases e
        · cases e
      · cases e
def NiceCaller (call : Caller) : Prop := ∀ f args, Nice (call f args)
def NiceTo {α : Type} (m : Nat) (f : Heap → Option (α × Heap)) : Prop :=
  ∀ h v h', m ≤ h.next.toNat → f h = some (v, h') → h.next.toNat ≤ h'.next.toNat ∧ ∀ b x, b.toNat < m → Fresh b h → Fresh b h' ∧ f (h.upd b (some x)) = some (v, h'.upd b (some x))
theorem Nice.to {α : Type} {f : Heap → Option (α × Heap)} (h : Nice f) (m : Nat) : NiceTo m f :=
  fun h0 v h' hm e => ⟨(h h0 v h' e).1, fun b x hb hf => (h h0 v h' e).2 b x (by omega) hf⟩
theorem nice_act {call : Caller} (hc : NiceCaller call) (a : VAct) (args : List AV) : Nice (a.run call args) := by
  cases a with
  | op o => exact nice_op o args
  | call f => exact hc f args
  | callv =>
    intro h v h' e
    simp only [VAct.run] at e ⊢
    split at e
    · next f fs cs xs => exact hc _ _ h v h' e
    · cases e
theorem nice_oper {call : Caller} (hc : NiceCaller call) (o : VOper) (fr : Fr) : Nice (o.run call fr) := by
  intro h v h' e
  simp only [VOper.run] at e ⊢
  split at e
  · next hw =>
    split at e
    · next args hf =>
      split at e
      · next u h1 ha =>
        cases e
        obtain ⟨g1, g2⟩ := nice_act hc o.act args h u _ ha
        exact ⟨g1, fun b x hb hfr => ⟨(g2 b x hb hfr).1, by simp only [(g2 b x hb hfr).2]⟩⟩
      · cases e
    · cases e
  · next hw => cases e; exact ⟨Nat.le_refl _, fun b x _ hfr => ⟨hfr, by simp only⟩⟩
  · cases e
theorem nice_ops {call : Caller} (hc : NiceCaller call) : ∀ (l : List VOper) (fr : Fr), Nice (runOps call l fr)
  | [], fr => by
    intro h v h' e
    simp only [runOps, Option.some.injEq, Prod.mk.injEq] at e
    obtain ⟨rfl, rfl⟩ := e
    exact ⟨Nat.le_refl _, fun b x _ hf => ⟨hf, rfl⟩⟩
  | o :: l, fr => by
    intro h v h' e
    simp only [runOps] at e ⊢
    split at e
    · next fr1 h1 h1e =>
      obtain ⟨g1, g2⟩ := nice_oper hc o fr h fr1 h1 h1e
      obtain ⟨g3, g4⟩ := nice_ops hc l fr1 h1 v h' e
      refine ⟨by omega, fun b x hb hf => ?_⟩
      obtain ⟨k1, k2⟩ := g2 b x hb hf
      obtain ⟨k3, k4⟩ := g4 b x (by omega) k1
      exact ⟨k3, by simp only [k2, k4]⟩
    · cases e
theorem Fresh.next {b : Key} {h : Heap} (hf : Fresh b h) (r : Key) : Fresh b { h with next := r } := hf
theorem quiet_run {o : VOp} (hk : o.kind = .quiet) {args : List AV} {h h' : Heap} {v : AV} (e : o.run args h = some (v, h')) : h' = h ∧ ∀ h2 : Heap, (∀ b, rdBlk o args = some b → h2.get b = h.get b) → o.run args h2 = some (v, h2) := by
  by_cases hbl : blindOp o = true
  · obtain ⟨h1, h2⟩ := blind_ok hbl args h v h' e
    exact ⟨h1, fun h3 _ => h2 h3⟩
  · have rd : ∀ {h2 : Heap} {b : Key}, h2.get b = h.get b → ∀ o n, h2.read b o n = h.read b o n := fun hg o n => by
      unfold Heap.read Heap.cells; rw [hg]
    cases o <;> simp only [blindOp, not_true_eq_false] at hbl <;> simp only [VOp.kind, reduceCtorEq] at hk <;> simp only [VOp.run] at e ⊢
    case load1 =>
      unfold rLoad1 at e
      split at e
      · split at e
        · next y hr => cases e; exact ⟨rfl, fun h2 hh => by unfold rLoad1; simp only [rd (hh _ rfl), hr]⟩
        · cases e
      · cases e
    case loadn n =>
      unfold rLoadn at e
      split at e
      · split at e
        · next b0 o0 _ y hr =>
          cases e
          refine ⟨rfl, fun h2 hh => ?_⟩
          unfold rLoadn
          by_cases hn : n = 0
          · subst hn; rw [read_zero] at hr; cases hr; simp only [read_zero]
          · simp only [rd (hh b0 (by simp [rdBlk, hn])), hr]
        · cases e
      · cases e
    case lookup ks z ok =>
      unfold rLookup at e
      split at e
      · split at e
        · next hc => cases e; exact ⟨rfl, fun h2 _ => by unfold rLookup; simp only [hc, if_true]⟩
        · cases e
      · split at e
        · next hc =>
          split at e
          · next l own anc hg =>
            split at e
            · next r hr => cases e; exact ⟨rfl, fun h2 hh => by unfold rLookup; simp only [hc, if_true, hh _ rfl, hg, hr]⟩
            · cases e
          · cases e
        · cases e
      · cases e
    case lenm =>
      unfold rLenm at e
      split at e
      · cases e; exact ⟨rfl, fun h2 _ => rfl⟩
      · split at e
        · next l own anc hg => cases e; exact ⟨rfl, fun h2 hh => by unfold rLenm; simp only [hh _ rfl, hg]⟩
        · cases e
      · cases e
theorem rd_there {o : VOp} {args : List AV} {h h' : Heap} {v : AV} (e : o.run args h = some (v, h')) {c : Key} (hc : rdBlk o args = some c) : h.get c ≠ none := by
  intro hn
  have hcells : h.cells c = none := by unfold Heap.cells; rw [hn]
  unfold rdBlk at hc
  split at hc
  · cases hc
    simp only [VOp.run] at e
    unfold rLoad1 at e
    split at e
    · next e' => cases e'; simp [Heap.read, hcells] at e
    · cases e
  · split at hc
    · cases hc
    · next hn0 =>
      cases hc
      simp only [VOp.run] at e
      unfold rLoadn at e
      split at e
      · next e' => cases e'; simp [Heap.read, hcells, hn0] at e
      · cases e
  · cases hc
    simp only [VOp.run] at e
    unfold rLookup at e
    split at e
    · next e' => cases e'
    · next e' => cases e'; simp [hn] at e
    · cases e
  · cases hc
    simp only [VOp.run] at e
    unfold rLenm at e
    split at e
    · next e' => cases e'
    · next e' => cases e'; simp [hn] at e
    · cases e
  · cases hc
theorem sameIn_mono {o : VOp} (hk : o.kind = .quiet) {args : List AV} {v : AV} {b : Key} {x : Blk} (hf0 : ∀ c, rdBlk o args = some c → b ≠ c) : ∀ (l : List Heap), sameIn o args v l = true → sameIn o args v (l.map fun h => h.upd b (some x)) = true
  | [], _ => rfl
  | h :: l, e => by
    simp only [sameIn, Bool.and_eq_true] at e
    simp only [List.map_cons, sameIn, Bool.and_eq_true]
    refine ⟨?_, sameIn_mono hk hf0 l e.2⟩
    have e1 := e.1
    split at e1
    · next u h2 hu =>
      obtain ⟨_, hq⟩ := quiet_run hk hu
      rw [hq (h.upd b (some x)) (fun c hc => upd_get_ne (hf0 c hc) _)]
      exact e1
    · cases e1
theorem nice_drawn {call : Caller} (hc : NiceCaller call) (lo hi : Key) : ∀ (l : List DOp) (r : Key) (snaps : List Heap) (fr : Fr) (h : Heap) (fr' : Fr) (h' : Heap), lo.toNat ≤ r.toNat → r.toNat + nAlloc l ≤ h.next.toNat → lo.toNat ≤ h.next.toNat →
    runDrawn call lo hi l r snaps fr h = some (fr', h') → h.next.toNat ≤ h'.next.toNat ∧ ∀ b x, b.toNat < lo.toNat → Fresh b h → (∀ s ∈ snaps, s.get b = none) →
      Fresh b h' ∧ runDrawn call lo hi l r (snaps.map fun s => s.upd b (some x)) fr (h.upd b (some x)) = some (fr', h'.upd b (some x))
  | [], r, snaps, fr, h, fr', h', _, _, _, e => by
    simp only [runDrawn, Option.some.injEq, Prod.mk.injEq] at e
    obtain ⟨rfl, rfl⟩ := e
    exact ⟨Nat.le_refl _, fun b x _ hf _ => ⟨hf, rfl⟩⟩
  | d :: l, r, snaps, fr, h, fr', h', hlo, hr, hln, e => by
    simp only [nAlloc] at hr
    simp only [runDrawn] at e ⊢
    split at e
    · next hk =>
      split at e
      · next fr1 h1 h1e =>
        obtain ⟨g1, g2⟩ := nice_oper hc d.o fr h fr1 h1 h1e
        obtain ⟨g3, g4⟩ := nice_drawn hc lo hi l r (snaps ++ [h]) fr1 h1 fr' h' hlo (by omega) (by omega) e
        refine ⟨by omega, fun b x hb hf hs => ?_⟩
        obtain ⟨k1, k2⟩ := g2 b x (by omega) hf
        obtain ⟨k3, k4⟩ := g4 b x hb k1 (by intro s hs'; rcases List.mem_append.1 hs' with h5 | h5; exact hs s h5; simp at h5; subst h5; exact hf.1)
        refine ⟨k3, ?_⟩
        simp only [k2]
        simpa using k4
      · cases e
    · next hk =>
      simp only [hk, if_true] at hr
      split at e
      · next fr1 h1 h1e =>
        obtain ⟨g1, g2⟩ := nice_oper hc d.o fr _ fr1 h1 h1e
        have hn : ({ h1 with next := h.next } : Heap).next = h.next := rfl
        obtain ⟨g3, g4⟩ := nice_drawn hc lo hi l r.succ snaps fr1 { h1 with next := h.next } fr' h' (by rw [Key.toNat_succ]; omega) (by rw [Key.toNat_succ, hn]; omega) hln e
        refine ⟨g3, fun b x hb hf hs => ?_⟩
        obtain ⟨k1, k2⟩ := g2 b x (by show b.toNat < r.toNat; omega) (hf.next r)
        obtain ⟨k3, k4⟩ := g4 b x hb (k1.next h.next) hs
        refine ⟨k3, ?_⟩
        have k2' : d.o.run call fr { h.upd b (some x) with next := r } = some (fr1, h1.upd b (some x)) := k2
        simp only [k2']
        exact k4
      · cases e
    · next hk =>
      split at e
      · next o hw ha =>
        have hko : o.kind = .quiet := by rw [ha] at hk; exact hk
        split at e
        · next args hf0 =>
          split at e
          · next v h2 hv =>
            split at e
            · next hchk =>
              simp only [Bool.and_eq_true] at hchk
              simp only [hko, reduceCtorEq, VAct.kind, ha, if_false] at hr
              obtain ⟨g3, g4⟩ := nice_drawn hc lo hi l r snaps _ h fr' h' hlo (by omega) hln e
              refine ⟨g3, fun b x hb hf hs => ?_⟩
              obtain ⟨k3, k4⟩ := g4 b x hb hf hs
              refine ⟨k3, ?_⟩
              obtain ⟨_, hq⟩ := quiet_run hko hv
              have hne : ∀ c, rdBlk o args = some c → b ≠ c := fun c hcc e' => by
                subst e'
                exact rd_there hv hcc hf.1
              have hrun : o.run args (h.upd b (some x)) = some (v, h.upd b (some x)) := hq _ fun c hcc => upd_get_ne (hne c hcc) _
              have hsame := sameIn_mono (v := v) (b := b) (x := x) hko hne _ hchk.2
              simp only [hrun]
              rw [← List.map_drop, hchk.1, hsame]
              simpa using k4
            · cases e
          · cases e
        · cases e
      · next hw => 
        obtain ⟨g3, g4⟩ := nice_drawn hc lo hi l r snaps _ h fr' h' hlo (by omega) hln e
        exact ⟨g3, fun b x hb hf hs => g4 b x hb hf hs⟩
      · cases e
theorem succs_toNat : ∀ (n : Nat) (k : Key), (succs k n).toNat = k.toNat + n
  | 0, k => rfl
  | n + 1, k => by rw [succs, succs_toNat n, Key.toNat_succ]; omega
theorem results_same {h : Heap} {b : Key} {x : Blk} (hf : Fresh b h) {fr : Fr} : ∀ {l : List VRes} {r : List CV}, resultsV fr h l = some r → resultsV fr (h.upd b (some x)) l = some r
  | [], r, e => e
  | v :: l, r, e => by
    unfold resultsV at e ⊢
    split at e
    · next c hc =>
      have : resultV fr (h.upd b (some x)) v = some c := by
        unfold resultV at hc ⊢
        split at hc
        · exact hc
        · split at hc
          · split at hc
            · next y hr => rw [hf.read hr]; exact hc
            · cases hc
          · cases hc
        · split at hc
          · split at hc
            · next y hr => rw [hf.read hr]; exact hc
            · cases hc
          · cases hc
      rw [this]
      split at e
      · next cs hcs => rw [results_same hf hcs]; exact e
      · cases e
    · cases e
theorem nice_callV {F : Funcs} {O : Oracle} (hO : ∀ f g, O f = some g → ∀ args, Nice (g args)) {ex : VCode → Fr → Heap → Option (VExit × Fr × Heap)}
    (hex : ∀ c fr h x fr' h', ex c fr h = some (x, fr', h') → h.next.toNat ≤ h'.next.toNat ∧ ∀ b y, b.toNat < h.next.toNat → Fresh b h → Fresh b h' ∧ ex c fr (h.upd b (some y)) = some (x, fr', h'.upd b (some y))) : NiceCaller (callV F O ex) := by
  intro f args h v h' e
  unfold callV at e ⊢
  split at e
  · next g ho => exact hO f g ho args h v h' e
  · next ho =>
    split at e
    · next vf hvf =>
      split at e
      · cases e
      · next x fr h2 hne hx =>
        split at e
        · next l hl =>
          cases e
          obtain ⟨g1, g2⟩ := hex _ _ _ _ _ _ hx
          refine ⟨g1, fun b y hb hf => ⟨(g2 b y hb hf).1, ?_⟩⟩
          have e2 := (g2 b y hb hf).2
          have e3 := results_same (x := y) (g2 b y hb hf).1 hl
          simp only [e2]
          cases x with
          | exit i => exact (hne i rfl).elim
          | normal => simp only [e3]
          | ret => simp only [e3]
        · cases e
      · cases e
    · cases e
theorem nice_exec {F : Funcs} {O : Oracle} (hO : ∀ f g, O f = some g → ∀ args, Nice (g args)) : ∀ (n : Nat) (c : VCode) (fr : Fr) (h : Heap) (x : VExit) (fr' : Fr) (h' : Heap), exec F O n c fr h = some (x, fr', h') →
    h.next.toNat ≤ h'.next.toNat ∧ ∀ b y, b.toNat < h.next.toNat → Fresh b h → Fresh b h' ∧ exec F O n c fr (h.upd b (some y)) = some (x, fr', h'.upd b (some y))
  | 0, c, fr, h, x, fr', h', e => by simp [exec] at e
  | n + 1, c, fr, h, x, fr', h', e => by
    have ih := nice_exec (F := F) hO n
    have hc : NiceCaller (callV F O (exec F O n)) := nice_callV hO ih
    cases c with
    | skip => simp only [exec, Option.some.injEq, Prod.mk.injEq] at e; obtain ⟨rfl, rfl, rfl⟩ := e; exact ⟨Nat.le_refl _, fun b y _ hf => ⟨hf, rfl⟩⟩
    | exit id => simp only [exec, Option.some.injEq, Prod.mk.injEq] at e; obtain ⟨rfl, rfl, rfl⟩ := e; exact ⟨Nat.le_refl _, fun b y _ hf => ⟨hf, rfl⟩⟩
    | ret => simp only [exec, Option.some.injEq, Prod.mk.injEq] at e; obtain ⟨rfl, rfl, rfl⟩ := e; exact ⟨Nat.le_refl _, fun b y _ hf => ⟨hf, rfl⟩⟩
    | region ops =>
      simp only [exec] at e ⊢
      split at e
      · next fr1 h1 h1e =>
        cases e
        obtain ⟨g1, g2⟩ := nice_ops hc ops fr h _ _ h1e
        exact ⟨g1, fun b y hb hf => ⟨(g2 b y hb hf).1, by simp only [(g2 b y hb hf).2]⟩⟩
      · cases e
    | drawn ds =>
      simp only [exec] at e ⊢
      split at e
      · next fr1 h1 h1e =>
        cases e
        have hn := succs_toNat (nAlloc ds) h.next
        obtain ⟨g1, g2⟩ := nice_drawn hc h.next _ ds h.next [] fr _ _ _ (Nat.le_refl _) (by show _ ≤ (succs h.next (nAlloc ds)).toNat; omega) (by show _ ≤ (succs h.next (nAlloc ds)).toNat; omega) h1e
        have g1' : (succs h.next (nAlloc ds)).toNat ≤ h'.next.toNat := g1
        refine ⟨by omega, fun b y hb hf => ?_⟩
        obtain ⟨k1, k2⟩ := g2 b y hb hf (by simp)
        refine ⟨k1, ?_⟩
        have k2' : runDrawn (callV F O (exec F O n)) h.next (succs h.next (nAlloc ds)) ds h.next [] fr { h.upd b (some y) with next := succs h.next (nAlloc ds) } = some (fr', h'.upd b (some y)) := k2
        simp only [upd_next, k2']
      · cases e
    | seq a b0 =>
      simp only [exec] at e ⊢
      split at e
      · next fr1 h1 h1e =>
        obtain ⟨g1, g2⟩ := ih a fr h _ _ _ h1e
        obtain ⟨g3, g4⟩ := ih b0 fr1 h1 _ _ _ e
        refine ⟨by omega, fun b y hb hf => ?_⟩
        obtain ⟨k1, k2⟩ := g2 b y hb hf
        obtain ⟨k3, k4⟩ := g4 b y (by omega) k1
        exact ⟨k3, by simp only [k2, k4]⟩
      · next hnn =>
        obtain ⟨g1, g2⟩ := ih a fr h _ _ _ e
        refine ⟨g1, fun b y hb hf => ⟨(g2 b y hb hf).1, ?_⟩⟩
        rw [(g2 b y hb hf).2]
        cases x with
        | normal => exact absurd e (hnn _ _)
        | _ => rfl
    | cond c0 a b0 =>
      simp only [exec] at e ⊢
      split at e
      · next hc0 => exact ih a fr h _ _ _ e
      · next hc0 => exact ih b0 fr h _ _ _ e
      · cases e
    | block id c0 =>
      simp only [exec] at e ⊢
      split at e
      · next j fr1 h1 h1e =>
        obtain ⟨g1, g2⟩ := ih c0 fr h _ _ _ h1e
        split at e
        · next hj => cases e; exact ⟨g1, fun b y hb hf => ⟨(g2 b y hb hf).1, by simp only [(g2 b y hb hf).2, hj, if_true]⟩⟩
        · next hj => cases e; exact ⟨g1, fun b y hb hf => ⟨(g2 b y hb hf).1, by simp only [(g2 b y hb hf).2, hj, if_false]⟩⟩
      · next hnn =>
        obtain ⟨g1, g2⟩ := ih c0 fr h _ _ _ e
        refine ⟨g1, fun b y hb hf => ⟨(g2 b y hb hf).1, ?_⟩⟩
        rw [(g2 b y hb hf).2]
        cases x with
        | exit j => exact absurd e (hnn _ _ _)
        | _ => rfl
    | loop c0 =>
      simp only [exec] at e ⊢
      split at e
      · next fr1 h1 h1e =>
        obtain ⟨g1, g2⟩ := ih c0 fr h _ _ _ h1e
        obtain ⟨g3, g4⟩ := ih (.loop c0) fr1 h1 _ _ _ e
        refine ⟨by omega, fun b y hb hf => ?_⟩
        obtain ⟨k1, k2⟩ := g2 b y hb hf
        obtain ⟨k3, k4⟩ := g4 b y (by omega) k1
        exact ⟨k3, by simp only [k2, k4]⟩
      · next hnn =>
        obtain ⟨g1, g2⟩ := ih c0 fr h _ _ _ e
        refine ⟨g1, fun b y hb hf => ⟨(g2 b y hb hf).1, ?_⟩⟩
        rw [(g2 b y hb hf).2]
        cases x with
        | normal => exact absurd e (hnn _ _)
        | _ => rfl
end Go.Vm
end
section
namespace Go.Vm
open Key (kn)
theorem maskOf_bit (ms : List Nat) (i : Nat) : ∀ (ds : List Nat), (maskOf ms ds).testBit i = true ↔ ∃ k ∈ ds, k = i ∨ (ms.getD k 0).testBit i = true
  | [] => by simp [maskOf]
  | k :: l => by
    simp only [maskOf, Nat.testBit_or, Bool.or_eq_true, maskOf_bit ms i l, List.mem_cons, Nat.testBit_two_pow, decide_eq_true_eq]
    constructor
    · rintro ((h | h) | ⟨k', h1, h2⟩)
      · exact ⟨k, .inl rfl, .inl h⟩
      · exact ⟨k, .inl rfl, .inr h⟩
      · exact ⟨k', .inr h1, h2⟩
    · rintro ⟨k', rfl | h1, h2⟩
      · exact .inl (h2.imp id id)
      · exact .inr ⟨k', h1, h2⟩
theorem masksFrom_spec : ∀ (ds : List (List Nat)) (ms : List Nat), (masksFrom ds ms).length = ms.length + ds.length ∧
    (∀ j, j < ms.length → (masksFrom ds ms)[j]? = ms[j]?) ∧
    ∀ t d, ds[t]? = some d → (masksFrom ds ms)[ms.length + t]? = some (maskOf ((masksFrom ds ms).take (ms.length + t)) d)
  | [], ms => by simp [masksFrom]
  | d :: r, ms => by
    obtain ⟨h1, h2, h3⟩ := masksFrom_spec r (ms ++ [maskOf ms d])
    simp only [masksFrom]
    refine ⟨by rw [h1]; simp; omega, fun j hj => ?_, fun t d' ht => ?_⟩
    · rw [h2 j (by simp; omega), List.getElem?_append_left hj]
    · cases t with
      | zero =>
        simp only [List.getElem?_cons_zero, Option.some.injEq] at ht
        subst ht
        rw [Nat.add_zero, h2 ms.length (by simp), List.getElem?_append_right (Nat.le_refl _)]
        simp only [Nat.sub_self, List.getElem?_cons_zero]
        congr 2
        apply List.ext_getElem?
        intro i
        rw [List.getElem?_take]
        by_cases hi : i < ms.length
        · rw [if_pos hi, h2 i (by simp; omega), List.getElem?_append_left hi]
        · rw [if_neg hi, List.getElem?_eq_none (by omega)]
      | succ t =>
        have := h3 t d' (by simpa using ht)
        simp only [List.length_append, List.length_singleton] at this
        rw [show ms.length + (t + 1) = ms.length + 1 + t from by omega]
        exact this
def EdgesDown (ops : List Oper) : Prop := ∀ j o, ops[j]? = some o → ∀ k ∈ direct o, k < j
theorem before_iff {ops : List Oper} (hd : EdgesDown ops) {i j : Nat} {o : Oper} (hj : ops[j]? = some o) : before (masks ops) i j = true ↔ ∃ k ∈ direct o, k = i ∨ before (masks ops) i k = true := by
  obtain ⟨h1, _, h3⟩ := masksFrom_spec (ops.map direct) []
  have := h3 j (direct o) (by simp [hj])
  simp only [List.length_nil, Nat.zero_add] at this
  have hm : (masks ops).getD j 0 = maskOf ((masks ops).take j) (direct o) := by
    unfold masks
    rw [List.getD_eq_getElem?_getD, this]; rfl
  unfold before
  rw [hm, maskOf_bit]
  constructor
  · rintro ⟨k, hk, h⟩
    refine ⟨k, hk, h.imp id fun h => ?_⟩
    have hlt := hd j o hj k hk
    rw [List.getD_eq_getElem?_getD, List.getElem?_take, if_pos hlt, ← List.getD_eq_getElem?_getD] at h
    exact h
  · rintro ⟨k, hk, h⟩
    refine ⟨k, hk, h.imp id fun h => ?_⟩
    have hlt := hd j o hj k hk
    rw [List.getD_eq_getElem?_getD, List.getElem?_take, if_pos hlt, ← List.getD_eq_getElem?_getD]
    exact h
theorem before_none {ops : List Oper} {i j : Nat} (hj : ops[j]? = none) : before (masks ops) i j = false := by
  obtain ⟨h1, _, _⟩ := masksFrom_spec (ops.map direct) []
  unfold before masks
  have hlen : (masksFrom (ops.map direct) []).length ≤ j := by
    rw [h1]
    have := List.getElem?_eq_none_iff.1 hj
    simpa using this
  rw [List.getD_eq_getElem?_getD, List.getElem?_eq_none hlen]
  simp
def Closed (ops : List Oper) (L : Nat → Bool) : Prop := ∀ j o, ops[j]? = some o → L j = true → ∀ k ∈ direct o, L k = true
theorem Closed.anc {ops : List Oper} (hd : EdgesDown ops) {L : Nat → Bool} (hc : Closed ops L) {i : Nat} : ∀ (n j : Nat), j < n → before (masks ops) i j = true → L j = true → L i = true
  | 0, j, h, _, _ => by omega
  | n + 1, j, hjn, hb, hl => by
    cases hj : ops[j]? with
    | none => rw [before_none hj] at hb; cases hb
    | some o =>
      obtain ⟨k, hk, h⟩ := (before_iff hd hj).1 hb
      have hlk := hc j o hj hl k hk
      rcases h with rfl | h
      · exact hlk
      · exact Closed.anc hd hc n k (by have := hd j o hj k hk; omega) h hlk
theorem Closed.ready {ops : List Oper} (hd : EdgesDown ops) {L : Nat → Bool} (hc : Closed ops L) {i j : Nat} {o : Oper} (hj : ops[j]? = some o) (hr : ∀ k ∈ direct o, L k = true) (hb : before (masks ops) i j = true) : L i = true := by
  obtain ⟨k, hk, h⟩ := (before_iff hd hj).1 hb
  rcases h with rfl | h
  · exact hr k hk
  · exact hc.anc hd (k + 1) k (by omega) h (hr k hk)
theorem mem_direct {o : Oper} {e : Edge} (he : e ∈ o.after) (hb : Region.binds .any e = true) : e.on ∈ direct o := by
  unfold direct
  exact List.mem_map.2 ⟨e, List.mem_filter.2 ⟨by simpa using he, hb⟩, rfl⟩
theorem of_mem_direct {o : Oper} {k : Nat} (h : k ∈ direct o) : ∃ e ∈ o.after, Region.binds .any e = true ∧ e.on = k := by
  unfold direct at h
  obtain ⟨e, he, rfl⟩ := List.mem_map.1 h
  obtain ⟨h1, h2⟩ := List.mem_filter.1 he
  exact ⟨e, by simpa using h1, h2, rfl⟩
structure Ev where
  i : Nat
  d : DOp
  v : AV
  al : Option (Key × Blk)
def StepOk (call : Caller) (lo hi : Key) (x : Ev) (r : Key) (snaps : List Heap) (fr : Fr) (h h1 : Heap) : Prop :=
  (wantedV fr x.d.o.guard = some true ∧ ∃ args, fetch fr x.d.o.args = some args ∧
    match x.d.o.act.kind with
    | .effect => x.al = none ∧ x.d.o.act.run call args h = some (x.v, h1)
    | .alloc => ∃ o blk, x.d.o.act = .op o ∧ x.al = some (r, blk) ∧ o.run args { h with next := r } = some (x.v, ({ h with next := r } : Heap).newB blk) ∧ h1 = h.upd r (some blk)
    | .quiet => ∃ o, x.d.o.act = .op o ∧ x.al = none ∧ o.run args h = some (x.v, h) ∧ outside lo hi o args = true ∧ sameIn o args x.v (snaps.drop x.d.chk) = true ∧ h1 = h) ∨
  (wantedV fr x.d.o.guard = some false ∧ x.v = .unit ∧ x.al = none ∧ h1 = h)
def nextKey (x : Ev) (r : Key) : Key := if x.d.o.act.kind = .alloc then r.succ else r
def nextSnaps (x : Ev) (snaps : List Heap) (h : Heap) : List Heap := if x.d.o.act.kind = .effect then snaps ++ [h] else snaps
def Run (call : Caller) (lo hi : Key) : List Ev → Key → List Heap → Fr → Heap → Fr → Heap → Prop
  | [], _, _, fr, h, fr', h' => fr = fr' ∧ h = h'
  | x :: l, r, snaps, fr, h, fr', h' => ∃ h1, StepOk call lo hi x r snaps fr h h1 ∧ Run call lo hi l (nextKey x r) (nextSnaps x snaps h) (putV fr x.d.o.dst x.v) h1 fr' h'
theorem alloc_run {o : VOp} (hk : o.kind = .alloc) {args : List AV} {h h' : Heap} {v : AV} (e : o.run args h = some (v, h')) :
    ∃ blk : Blk, blk.anc = [] ∧ h' = h.newB blk ∧ ∀ h2 : Heap, h2.next = h.next → o.run args h2 = some (v, h2.newB blk) := by
  cases o <;> simp only [VOp.kind, reduceCtorEq] at hk <;> simp only [VOp.run] at e ⊢
  case newz zs =>
    unfold rNewz at e
    split at e
    · cases e; exact ⟨_, rfl, rfl, fun h2 hn => by unfold rNewz; simp only [hn]; rfl⟩
    · cases e
  case box n =>
    unfold rBox at e
    split at e
    · split at e
      · next hc => cases e; exact ⟨_, rfl, rfl, fun h2 hn => by unfold rBox; simp only [hc, if_true, hn]; rfl⟩
      · cases e
    · cases e
  case bslice es len z p =>
    unfold rBslice at e ⊢
    split at e
    · next cs hl => cases e; exact ⟨_, rfl, rfl, fun h2 hn => by simp only [hn]; rfl⟩
    · cases e
  case s2b =>
    unfold rS2b at e
    split at e
    · split at e
      · next hc => cases e; exact ⟨_, rfl, rfl, fun h2 hn => by unfold rS2b; simp only [hc, if_true, hn]⟩
      · cases e
    · cases e
  case mkmap =>
    unfold rMkmap at e
    split at e
    · cases e; exact ⟨_, rfl, rfl, fun h2 hn => by unfold rMkmap; simp only [hn]; rfl⟩
    · cases e; exact ⟨_, rfl, rfl, fun h2 hn => by unfold rMkmap; simp only [hn]; rfl⟩
    · cases e
  case mkslice es by' z =>
    unfold rMkslice at e
    split at e
    · split at e
      · next hc => cases e; exact ⟨_, rfl, rfl, fun h2 hn => by unfold rMkslice; simp only [hc, and_self, if_true, hn]; rfl⟩
      · cases e
    · cases e
theorem alloc_op {a : VAct} (h : a.kind = .alloc) : ∃ o, a = .op o ∧ o.kind = .alloc := by
  cases a with
  | op o => exact ⟨o, rfl, h⟩
  | _ => cases h
theorem run_of_drawn {call : Caller} {lo hi : Key} : ∀ (is : List Nat) (ds : List DOp) (r : Key) (snaps : List Heap) (fr : Fr) (h : Heap) (fr' : Fr) (h' : Heap), is.length = ds.length → runDrawn call lo hi ds r snaps fr h = some (fr', h') →
    ∃ evs : List Ev, evs.map (·.i) = is ∧ evs.map (·.d) = ds ∧ Run call lo hi evs r snaps fr h fr' h'
  | [], [], r, snaps, fr, h, fr', h', _, e => by
    simp only [runDrawn, Option.some.injEq, Prod.mk.injEq] at e
    exact ⟨[], rfl, rfl, e.1, e.2⟩
  | [], _ :: _, _, _, _, _, _, _, hl, _ => by simp at hl
  | _ :: _, [], _, _, _, _, _, _, hl, _ => by simp at hl
  | i :: is, d :: ds, r, snaps, fr, h, fr', h', hl, e => by
    have hl' : is.length = ds.length := by simpa using hl
    simp only [runDrawn] at e
    split at e
    · next hk =>
      split at e
      · next fr1 h1 h1e =>
        unfold VOper.run at h1e
        split at h1e
        · next hw =>
          split at h1e
          · next args hf =>
            split at h1e
            · next v h2 ha =>
              cases h1e
              obtain ⟨evs, e1, e2, e3⟩ := run_of_drawn is ds r _ _ _ fr' h' hl' e
              exact ⟨⟨i, d, v, none⟩ :: evs, by simp [e1], by simp [e2], _, .inl ⟨hw, args, hf, by simp only [hk]; exact ⟨trivial, ha⟩⟩, by simpa [nextKey, nextSnaps, hk] using e3⟩
            · cases h1e
          · cases h1e
        · next hw =>
          cases h1e
          obtain ⟨evs, e1, e2, e3⟩ := run_of_drawn is ds r _ _ _ fr' h' hl' e
          exact ⟨⟨i, d, .unit, none⟩ :: evs, by simp [e1], by simp [e2], _, .inr ⟨hw, rfl, rfl, rfl⟩, by simpa [nextKey, nextSnaps, hk] using e3⟩
        · cases h1e
      · cases e
    · next hk =>
      split at e
      · next fr1 h1 h1e =>
        unfold VOper.run at h1e
        split at h1e
        · next hw =>
          split at h1e
          · next args hf =>
            split at h1e
            · next v h2 ha =>
              cases h1e
              obtain ⟨o, ho, hko⟩ := alloc_op hk
              rw [ho] at ha
              have ha' : o.run args { h with next := r } = some (v, h1) := ha
              obtain ⟨blk, _, hb2, _⟩ := alloc_run hko ha'
              subst hb2
              have hheap : ({ (({ h with next := r } : Heap).newB blk) with next := h.next } : Heap) = h.upd r (some blk) := rfl
              rw [hheap] at e
              obtain ⟨evs, e1, e2, e3⟩ := run_of_drawn is ds _ _ _ _ fr' h' hl' e
              exact ⟨⟨i, d, v, some (r, blk)⟩ :: evs, by simp [e1], by simp [e2], _, .inl ⟨hw, args, hf, by simp only [hk]; exact ⟨o, blk, ho, rfl, ha', rfl⟩⟩, by simpa [nextKey, nextSnaps, hk] using e3⟩
            · cases h1e
          · cases h1e
        · next hw =>
          cases h1e
          obtain ⟨evs, e1, e2, e3⟩ := run_of_drawn is ds _ _ _ _ fr' h' hl' e
          exact ⟨⟨i, d, .unit, none⟩ :: evs, by simp [e1], by simp [e2], _, .inr ⟨hw, rfl, rfl, rfl⟩, by simpa [nextKey, nextSnaps, hk] using e3⟩
        · cases h1e
      · cases e
    · next hk =>
      split at e
      · next o hw ha =>
        split at e
        · next args hf =>
          split at e
          · next v h2 hv =>
            split at e
            · next hchk =>
              simp only [Bool.and_eq_true] at hchk
              have hko : o.kind = .quiet := by rw [ha] at hk; exact hk
              obtain ⟨hh, _⟩ := quiet_run hko hv
              subst hh
              obtain ⟨evs, e1, e2, e3⟩ := run_of_drawn is ds _ _ _ _ fr' h' hl' e
              exact ⟨⟨i, d, v, none⟩ :: evs, by simp [e1], by simp [e2], _, .inl ⟨hw, args, hf, by simp only [hk]; exact ⟨o, ha, trivial, hv, hchk.1, hchk.2, rfl⟩⟩, by simpa [nextKey, nextSnaps, hk] using e3⟩
            · cases e
          · cases e
        · cases e
      · next hw =>
        obtain ⟨evs, e1, e2, e3⟩ := run_of_drawn is ds _ _ _ _ fr' h' hl' e
        exact ⟨⟨i, d, .unit, none⟩ :: evs, by simp [e1], by simp [e2], _, .inr ⟨hw, rfl, rfl, rfl⟩, by simpa [nextKey, nextSnaps, hk] using e3⟩
      · cases e
end Go.Vm
end
section
namespace Go.Vm
open Key (kn)
def Keeps {α : Type} (f : Heap → Option (α × Heap)) : Prop :=
  ∀ h v h', f h = some (v, h') → h.next.toNat ≤ h'.next.toNat ∧ ∀ b : Key, h'.next.toNat ≤ b.toNat → Fresh b h → Fresh b h'
theorem Keeps.clean {α : Type} {f : Heap → Option (α × Heap)} (hf : Keeps f) {h h' : Heap} {v : α} (e : f h = some (v, h')) (hc : Clean h) : Clean h' := by
  obtain ⟨h1, h2⟩ := hf h v h' e
  exact fun b hb => h2 b hb (hc b (by omega))
theorem gt_ne {b c : Key} (h : c.succ.toNat ≤ b.toNat) : b ≠ c := by
  rintro rfl; rw [Key.toNat_succ] at h; omega
theorem Fresh.newB' {h : Heap} {b : Key} (hf : Fresh b h) (hne : b ≠ h.next) (y : Blk) (hy : b ∉ y.anc) : Fresh b (h.newB y) := by
  refine ⟨?_, fun d z hd => ?_⟩
  · rw [get_newB]; simp [Ne.symm hne, hf.1]
  · rw [get_newB] at hd
    by_cases hc : h.next = d
    · simp only [hc, if_true, Option.some.injEq] at hd; subst hd; exact hy
    · simp only [hc, if_false] at hd; exact hf.2 d z hd
theorem keeps_new {h : Heap} {y : Blk} (hy : y.anc = []) : h.next.toNat ≤ (h.newB y).next.toNat ∧ ∀ b : Key, (h.newB y).next.toNat ≤ b.toNat → Fresh b h → Fresh b (h.newB y) :=
  ⟨by rw [newB_next, Key.toNat_succ]; omega, fun b hb hf => hf.newB' (gt_ne hb) y (by simp [hy])⟩
theorem keeps_same {h : Heap} : h.next.toNat ≤ h.next.toNat ∧ ∀ b : Key, h.next.toNat ≤ b.toNat → Fresh b h → Fresh b h := ⟨Nat.le_refl _, fun _ _ hf => hf⟩
theorem keeps_write {h h' : Heap} {c : Key} {o : Nat} {l : List SV} (e : h.write c o l = some h') : h.next.toNat ≤ h'.next.toNat ∧ ∀ b : Key, h'.next.toNat ≤ b.toNat → Fresh b h → Fresh b h' := by
  obtain ⟨h1, h2⟩ := nice_write c o l e
  exact ⟨by rw [h1]; exact Nat.le_refl _, fun b _ hf => (h2 b default hf).1⟩
theorem keeps_renew {h h' : Heap} {c d : Key} {o k : Nat} {l : List SV} (e : h.renew c o k l = some (d, h')) : h.next.toNat ≤ h'.next.toNat ∧ ∀ b : Key, h'.next.toNat ≤ b.toNat → Fresh b h → Fresh b h' := by
  unfold Heap.renew at e
  split at e
  · cases e; exact keeps_new rfl
  · split at e
    · split at e
      · cases e; exact keeps_new rfl
      · cases e
    · cases e
theorem keeps_grow {h h' : Heap} {c d : Key} {o k : Nat} {l : List SV} (e : h.grow c o k l = some (d, h')) : h.next.toNat ≤ h'.next.toNat ∧ ∀ b : Key, h'.next.toNat ≤ b.toNat → Fresh b h → Fresh b h' := by
  unfold Heap.grow at e
  split at e
  · next cc m anc hg =>
    split at e
    · next body hb =>
      split at e
      · next hm =>
        cases e
        refine ⟨by rw [newB_next, Key.toNat_succ]; simp only [Heap.upd]; omega, fun b hlt hf => ?_⟩
        have hne := hf.ne hg
        have hna := hf.2 _ _ hg
        exact (hf.upd hne _ (by simpa using hna)).newB' (gt_ne hlt) _ (by simpa using ⟨hne, hna⟩)
      · next hm =>
        cases e
        refine ⟨by simp only [newB_next, Key.toNat_succ, Heap.upd, killAll_next]; omega, fun b hlt hf => ?_⟩
        have hne := hf.ne hg
        have hna := hf.2 _ _ hg
        exact ((hf.killAll anc hna).upd hne none (by simp)).newB' (gt_ne hlt) _ (by simp)
    · cases e
  · cases e
theorem keeps_append {h h' : Heap} {es by' : Nat} {s r : SV} {new : List SV} {n : Nat} (e : appendV h es by' s new n = some (r, h')) : h.next.toNat ≤ h'.next.toNat ∧ ∀ b : Key, h'.next.toNat ≤ b.toNat → Fresh b h → Fresh b h' := by
  unfold appendV at e
  split at e
  · split at e
    · cases e; exact keeps_same
    · split at e
      · cases e; exact keeps_new rfl
      · cases e
  · split at e
    · split at e
      · cases e; exact keeps_same
      · split at e
        · split at e
          · split at e
            · next hw => cases e; exact keeps_write hw
            · cases e
          · split at e
            · split at e
              · next hw => cases e; exact keeps_renew hw
              · cases e
            · cases e
        · split at e
          · split at e
            · next hw => cases e; exact keeps_grow hw
            · cases e
          · cases e
    · cases e
  · cases e
theorem keeps_op (op : VOp) (args : List AV) : Keeps (op.run args) := by
  intro h v h' e
  by_cases hbl : blindOp op = true
  · obtain ⟨rfl, _⟩ := blind_ok hbl args h v h' e
    exact keeps_same
  · by_cases hk : op.kind = .quiet
    · obtain ⟨rfl, _⟩ := quiet_run hk e
      exact keeps_same
    · by_cases hk : op.kind = .alloc
      · obtain ⟨blk, hb, rfl, _⟩ := alloc_run hk e
        exact keeps_new hb
      · cases op <;> simp only [blindOp, not_true_eq_false] at hbl <;> simp only [VOp.kind, not_true_eq_false, reduceCtorEq] at hk <;> (try (simp only [VOp.kind, not_true_eq_false] at *; done)) <;> simp only [VOp.run] at e
        case store n =>
          unfold rStore at e
          split at e
          · split at e
            · split at e
              · next hw => cases e; exact keeps_write hw
              · cases e
            · cases e
          · cases e
        case b2s =>
          unfold rB2s at e
          split at e
          · split at e
            · split at e
              · cases e; exact keeps_same
              · cases e
            · cases e
          · cases e; exact keeps_same
          · cases e
        case mapset ks =>
          unfold rMapset at e
          split at e
          · split at e
            · split at e
              · next hg =>
                split at e
                · cases e
                  exact ⟨Nat.le_refl _, fun b _ hf => hf.upd (hf.ne hg) _ (by simp)⟩
                · cases e
              · cases e
            · cases e
          · cases e
        case append es by' =>
          unfold rAppend at e
          split at e
          · split at e
            · split at e
              · next ha => cases e; exact keeps_append ha
              · cases e
            · cases e
          · cases e
        case copy es =>
          unfold rCopy at e
          split at e
          · split at e
            · split at e
              · cases e; exact keeps_same
              · split at e
                · split at e
                  · cases e; exact keeps_same
                  · split at e
                    · next hw => cases e; exact keeps_write hw
                    · cases e
                · cases e
              · cases e
            · cases e
          · cases e
        case mrange =>
          unfold rMrange at e
          split at e
          · split at e
            · split at e
              · cases e; exact keeps_new rfl
              · cases e
            · cases e
          · cases e
        case mnext =>
          unfold rMnext at e
          split at e
          · split at e
            · next hg =>
              split at e
              · split at e
                · split at e
                  · cases e
                    exact ⟨Nat.le_refl _, fun b _ hf => hf.upd (hf.ne hg) _ (by simp)⟩
                  · cases e; exact keeps_same
                  · cases e; exact keeps_same
                  · cases e
                · cases e
              · cases e
            · cases e
          · cases e
        case mentry =>
          unfold rMentry at e
          split at e
          · split at e
            · split at e
              · split at e
                · cases e; exact keeps_same
                · cases e
              · cases e
            · cases e
          · cases e
def KeepCaller (call : Caller) : Prop := ∀ f args h v h', call f args h = some (v, h') → Clean h → Clean h'
theorem keep_act {call : Caller} (hc : KeepCaller call) {a : VAct} {args : List AV} {h h' : Heap} {v : AV} (e : a.run call args h = some (v, h')) (hcl : Clean h) : Clean h' := by
  cases a with
  | op o => exact (keeps_op o args).clean e hcl
  | call f => exact hc f args h v h' e hcl
  | callv =>
    simp only [VAct.run] at e
    split at e
    · exact hc _ _ _ _ _ e hcl
    · cases e
theorem keep_oper {call : Caller} (hc : KeepCaller call) : KeepsOps call := by
  intro o fr h fr' h' e hcl
  unfold VOper.run at e
  split at e
  · split at e
    · split at e
      · next ha => cases e; exact keep_act hc ha hcl
      · cases e
    · cases e
  · cases e; exact hcl
  · cases e
theorem keep_ops {call : Caller} (hc : KeepCaller call) : ∀ (l : List VOper) {fr : Fr} {h : Heap} {fr' : Fr} {h' : Heap}, runOps call l fr h = some (fr', h') → Clean h → Clean h'
  | [], fr, h, fr', h', e, hcl => by simp only [runOps, Option.some.injEq, Prod.mk.injEq] at e; obtain ⟨rfl, rfl⟩ := e; exact hcl
  | o :: l, fr, h, fr', h', e, hcl => by
    simp only [runOps] at e
    split at e
    · next h1 => exact keep_ops hc l e (keep_oper hc _ _ _ _ _ h1 hcl)
    · cases e
theorem clean_upd {h : Heap} (hcl : Clean h) {c : Key} (hc : c.toNat < h.next.toNat) {y : Blk} (hy : y.anc = []) : Clean (h.upd c (some y)) := by
  intro b hb
  have hb' : h.next.toNat ≤ b.toNat := hb
  exact (hcl b hb').upd (by rintro rfl; omega) _ (by intro z hz; cases hz; simp [hy])
theorem alloc_at {call : Caller} {o : VOper} (hk : o.act.kind = .alloc) {fr fr' : Fr} {h h' : Heap} {r : Key} (e : o.run call fr { h with next := r } = some (fr', h')) :
    { h' with next := h.next } = h ∨ ∃ blk : Blk, blk.anc = [] ∧ { h' with next := h.next } = h.upd r (some blk) := by
  unfold VOper.run at e
  split at e
  · split at e
    · split at e
      · next ha =>
        cases e
        obtain ⟨p, hp, hkp⟩ := alloc_op hk
        rw [hp] at ha
        obtain ⟨blk, hb, rfl, _⟩ := alloc_run hkp ha
        exact .inr ⟨blk, hb, rfl⟩
      · cases e
    · cases e
  · cases e; exact .inl rfl
  · cases e
theorem keep_drawn {call : Caller} (hn : NiceCaller call) (hc : KeepCaller call) (lo hi : Key) : ∀ (l : List DOp) (r : Key) (snaps : List Heap) (fr : Fr) (h : Heap) (fr' : Fr) (h' : Heap), r.toNat + nAlloc l ≤ h.next.toNat →
    runDrawn call lo hi l r snaps fr h = some (fr', h') → Clean h → Clean h'
  | [], r, snaps, fr, h, fr', h', _, e, hcl => by
    simp only [runDrawn, Option.some.injEq, Prod.mk.injEq] at e
    obtain ⟨rfl, rfl⟩ := e
    exact hcl
  | d :: l, r, snaps, fr, h, fr', h', hr, e, hcl => by
    simp only [nAlloc] at hr
    simp only [runDrawn] at e
    split at e
    · next hk =>
      split at e
      · next fr1 h1 h1e =>
        have := (nice_oper hn d.o fr h fr1 h1 h1e).1
        exact keep_drawn hn hc lo hi l r _ fr1 h1 fr' h' (by omega) e (keep_oper hc _ _ _ _ _ h1e hcl)
      · cases e
    · next hk =>
      simp only [hk, if_true] at hr
      split at e
      · next fr1 h1 h1e =>
        have hcl1 : Clean { h1 with next := h.next } := by
          rcases alloc_at hk h1e with h2 | ⟨blk, hb, h2⟩
          · rw [h2]; exact hcl
          · rw [h2]; exact clean_upd hcl (by omega) hb
        exact keep_drawn hn hc lo hi l r.succ snaps fr1 { h1 with next := h.next } fr' h' (by rw [Key.toNat_succ]; show _ ≤ h.next.toNat; omega) e hcl1
      · cases e
    · next hk =>
      split at e
      · split at e
        · split at e
          · split at e
            · exact keep_drawn hn hc lo hi l r snaps _ h fr' h' (by omega) e hcl
            · cases e
          · cases e
        · cases e
      · exact keep_drawn hn hc lo hi l r snaps _ h fr' h' (by omega) e hcl
      · cases e
theorem clean_next {h : Heap} (hcl : Clean h) {n : Key} (hn : h.next.toNat ≤ n.toNat) : Clean { h with next := n } := fun b hb => hcl b (Nat.le_trans hn hb)
theorem keep_callV {F : Funcs} {O : Oracle} (hO : ∀ f g, O f = some g → ∀ args h v h', g args h = some (v, h') → Clean h → Clean h') {ex : VCode → Fr → Heap → Option (VExit × Fr × Heap)}
    (hex : ∀ c fr h x fr' h', ex c fr h = some (x, fr', h') → Clean h → Clean h') : KeepCaller (callV F O ex) := by
  intro f args h v h' e hcl
  unfold callV at e
  split at e
  · next g hg => exact hO f g hg args h v h' e hcl
  · split at e
    · split at e
      · cases e
      · next he =>
        split at e
        · cases e; exact hex _ _ _ _ _ _ he hcl
        · cases e
      · cases e
    · cases e
theorem keep_exec {F : Funcs} {O : Oracle} (hO : ∀ f g, O f = some g → ∀ args, Nice (g args)) (hO' : ∀ f g, O f = some g → ∀ args h v h', g args h = some (v, h') → Clean h → Clean h') : ∀ (n : Nat) (c : VCode) (fr : Fr) (h : Heap) (x : VExit) (fr' : Fr) (h' : Heap),
    exec F O n c fr h = some (x, fr', h') → Clean h → Clean h'
  | 0, c, fr, h, x, fr', h', e, _ => by simp [exec] at e
  | n + 1, c, fr, h, x, fr', h', e, hcl => by
    have ih := keep_exec (F := F) hO hO' n
    have hcall : KeepCaller (callV F O (exec F O n)) := keep_callV hO' ih
    have hnice : NiceCaller (callV F O (exec F O n)) := nice_callV hO (nice_exec hO n)
    cases c with
    | skip => simp only [exec, Option.some.injEq, Prod.mk.injEq] at e; obtain ⟨rfl, rfl, rfl⟩ := e; exact hcl
    | exit id => simp only [exec, Option.some.injEq, Prod.mk.injEq] at e; obtain ⟨rfl, rfl, rfl⟩ := e; exact hcl
    | ret => simp only [exec, Option.some.injEq, Prod.mk.injEq] at e; obtain ⟨rfl, rfl, rfl⟩ := e; exact hcl
    | region ops =>
      simp only [exec] at e
      split at e
      · next he => cases e; exact keep_ops hcall ops he hcl
      · cases e
    | drawn ops =>
      simp only [exec] at e
      split at e
      · next he =>
        cases e
        refine keep_drawn hnice hcall _ _ ops _ _ _ _ _ _ ?_ he (clean_next hcl ?_)
        · show _ ≤ (succs h.next (nAlloc ops)).toNat
          rw [succs_toNat]; exact Nat.le_refl _
        · rw [succs_toNat]; omega
      · cases e
    | seq a b =>
      simp only [exec] at e
      split at e
      · next he => exact ih _ _ _ _ _ _ e (ih _ _ _ _ _ _ he hcl)
      · exact ih _ _ _ _ _ _ e hcl
    | cond c a b =>
      simp only [exec] at e
      split at e
      · exact ih _ _ _ _ _ _ e hcl
      · exact ih _ _ _ _ _ _ e hcl
      · cases e
    | block id c =>
      simp only [exec] at e
      split at e
      · next he =>
        split at e
        · cases e; exact ih _ _ _ _ _ _ he hcl
        · cases e; exact ih _ _ _ _ _ _ he hcl
      · exact ih _ _ _ _ _ _ e hcl
    | loop c =>
      simp only [exec] at e
      split at e
      · next he => exact ih _ _ _ _ _ _ e (ih _ _ _ _ _ _ he hcl)
      · exact ih _ _ _ _ _ _ e hcl
end Go.Vm
end
section
namespace Go.Vm
open Key (kn)
def Ev.put (x : Ev) (h : Heap) : Heap := match x.al with
  | some (k, b) => h.upd k (some b)
  | none => h
def eFr (L : Nat → Bool) : List Ev → Fr → Fr
  | [], fr => fr
  | x :: l, fr => eFr L l (if L x.i then putV fr x.d.o.dst x.v else fr)
def eHeap (L : Nat → Bool) : List Ev → Heap → Heap
  | [], h => h
  | x :: l, h => eHeap L l (if L x.i then x.put h else h)
def pFr : List Ev → Fr → Fr
  | [], fr => fr
  | x :: l, fr => pFr l (putV fr x.d.o.dst x.v)
def upL (L : Nat → Bool) (i : Nat) : Nat → Bool := fun j => if j = i then true else L j
theorem eFr_append (L : Nat → Bool) : ∀ (a b : List Ev) (fr : Fr), eFr L (a ++ b) fr = eFr L b (eFr L a fr)
  | [], _, _ => rfl
  | _ :: a, b, _ => eFr_append L a b _
theorem eHeap_append (L : Nat → Bool) : ∀ (a b : List Ev) (h : Heap), eHeap L (a ++ b) h = eHeap L b (eHeap L a h)
  | [], _, _ => rfl
  | _ :: a, b, _ => eHeap_append L a b _
theorem eFr_congr {L L' : Nat → Bool} : ∀ (l : List Ev) (fr : Fr), (∀ x ∈ l, L x.i = L' x.i) → eFr L l fr = eFr L' l fr
  | [], _, _ => rfl
  | x :: l, fr, h => by
    simp only [eFr, h x (by simp)]
    exact eFr_congr l _ fun y hy => h y (by simp [hy])
theorem eHeap_congr {L L' : Nat → Bool} : ∀ (l : List Ev) (h : Heap), (∀ x ∈ l, L x.i = L' x.i) → eHeap L l h = eHeap L' l h
  | [], _, _ => rfl
  | x :: l, h0, h => by
    simp only [eHeap, h x (by simp)]
    exact eHeap_congr l _ fun y hy => h y (by simp [hy])
theorem eFr_none {L : Nat → Bool} : ∀ (l : List Ev) (fr : Fr), (∀ x ∈ l, L x.i = false) → eFr L l fr = fr
  | [], _, _ => rfl
  | x :: l, fr, h => by
    simp only [eFr, h x (by simp), Bool.false_eq_true, if_false]
    exact eFr_none l _ fun y hy => h y (by simp [hy])
theorem eHeap_none {L : Nat → Bool} : ∀ (l : List Ev) (h : Heap), (∀ x ∈ l, L x.i = false) → eHeap L l h = h
  | [], _, _ => rfl
  | x :: l, h0, h => by
    simp only [eHeap, h x (by simp), Bool.false_eq_true, if_false]
    exact eHeap_none l _ fun y hy => h y (by simp [hy])
theorem putV_comm (fr : Fr) {d d' : Option Key} (v v' : AV) (h : ∀ k, d = some k → d' ≠ some k) : putV (putV fr d v) d' v' = putV (putV fr d' v') d v := by
  cases d with
  | none => rfl
  | some k => cases d' with
    | none => rfl
    | some k' =>
      simp only [putV]
      exact Tr.upd_comm _ _ _ (fun e => h k rfl (by rw [e]))
theorem eFr_put (L : Nat → Bool) {d : Option Key} {v : AV} : ∀ (l : List Ev) (fr : Fr), (∀ y ∈ l, L y.i = true → ∀ k, d = some k → y.d.o.dst ≠ some k) → eFr L l (putV fr d v) = putV (eFr L l fr) d v
  | [], _, _ => rfl
  | x :: l, fr, h => by
    simp only [eFr]
    cases hx : L x.i with
    | false => simp only [Bool.false_eq_true, if_false]; exact eFr_put L l fr fun y hy => h y (by simp [hy])
    | true =>
      simp only [if_true]
      rw [putV_comm fr v x.v (h x (by simp) hx)]
      exact eFr_put L l _ fun y hy => h y (by simp [hy])
theorem put_next (x : Ev) (h : Heap) : (x.put h).next = h.next := by unfold Ev.put; split <;> rfl
theorem eHeap_next (L : Nat → Bool) : ∀ (l : List Ev) (h : Heap), (eHeap L l h).next = h.next
  | [], _ => rfl
  | x :: l, h => by
    rw [eHeap, eHeap_next L l]
    split
    · exact put_next x h
    · rfl
theorem eHeap_upd (L : Nat → Bool) {k : Key} {b : Blk} : ∀ (l : List Ev) (h : Heap), (∀ y ∈ l, L y.i = true → ∀ k' b', y.al = some (k', b') → k ≠ k') → eHeap L l (h.upd k (some b)) = (eHeap L l h).upd k (some b)
  | [], _, _ => rfl
  | x :: l, h0, h => by
    simp only [eHeap]
    cases hx : L x.i with
    | false => simp only [Bool.false_eq_true, if_false]; exact eHeap_upd L l _ fun y hy => h y (by simp [hy])
    | true =>
      simp only [if_true]
      have : x.put (h0.upd k (some b)) = (x.put h0).upd k (some b) := by
        unfold Ev.put
        split
        · next k' b' hal => exact upd_upd_comm (h x (by simp) hx k' b' hal) _ _
        · rfl
      rw [this]
      exact eHeap_upd L l _ fun y hy => h y (by simp [hy])
theorem eHeap_mid {L : Nat → Bool} {x : Ev} {pre post : List Ev} {h : Heap} (hx : L x.i = false) (hne : ∀ y ∈ pre ++ post, y.i ≠ x.i)
    (hk : ∀ y ∈ post, ∀ k b k' b', x.al = some (k, b) → y.al = some (k', b') → k ≠ k') : eHeap (upL L x.i) (pre ++ x :: post) h = x.put (eHeap L (pre ++ x :: post) h) := by
  rw [eHeap_append, eHeap_append]
  simp only [eHeap, hx, upL, if_true, Bool.false_eq_true, if_false]
  have h1 : eHeap (upL L x.i) pre h = eHeap L pre h := eHeap_congr pre h fun y hy => by simp [upL, hne y (by simp [hy])]
  have h2 : ∀ g, eHeap (upL L x.i) post g = eHeap L post g := fun g => eHeap_congr post g fun y hy => by simp [upL, hne y (by simp [hy])]
  show eHeap (upL L x.i) post (x.put (eHeap (upL L x.i) pre h)) = _
  rw [h1, h2]
  unfold Ev.put
  split
  · next k b hal => exact eHeap_upd L post _ fun y hy _ k' b' hy' => hk y hy k b k' b' hal hy'
  · rfl
theorem eFr_mid {L : Nat → Bool} {x : Ev} {pre post : List Ev} {fr : Fr} (hx : L x.i = false) (hne : ∀ y ∈ pre ++ post, y.i ≠ x.i)
    (hd : ∀ y ∈ post, ∀ k, x.d.o.dst = some k → y.d.o.dst ≠ some k) : eFr (upL L x.i) (pre ++ x :: post) fr = putV (eFr L (pre ++ x :: post) fr) x.d.o.dst x.v := by
  rw [eFr_append, eFr_append]
  simp only [eFr, hx, upL, if_true, Bool.false_eq_true, if_false]
  have h1 : eFr (upL L x.i) pre fr = eFr L pre fr := eFr_congr pre fr fun y hy => by simp [upL, hne y (by simp [hy])]
  have h2 : ∀ g, eFr (upL L x.i) post g = eFr L post g := fun g => eFr_congr post g fun y hy => by simp [upL, hne y (by simp [hy])]
  show eFr (upL L x.i) post (putV (eFr (upL L x.i) pre fr) x.d.o.dst x.v) = _
  rw [h1, h2]
  exact eFr_put L post _ fun y hy _ k e => hd y hy k e
theorem putV_get {fr : Fr} {d : Option Key} {v : AV} {k : Key} (h : d ≠ some k) : (putV fr d v).get k = fr.get k := by
  cases d with
  | none => rfl
  | some j =>
    simp only [putV, Tr.get_upd]
    rw [if_neg (fun e => h (by rw [e]))]
theorem eFr_get {L : Nat → Bool} {k : Key} : ∀ (post : List Ev) (fr : Fr), (∀ y ∈ post, y.d.o.dst = some k → L y.i = false) → (eFr L post fr).get k = fr.get k
  | [], _, _ => rfl
  | y :: l, fr, h => by
    rw [eFr, eFr_get l _ fun z hz => h z (by simp [hz])]
    by_cases hd : y.d.o.dst = some k
    · simp [h y (by simp) hd]
    · split
      · exact putV_get hd
      · rfl
theorem pFr_get {L : Nat → Bool} {k : Key} : ∀ (pre : List Ev) (fr fr2 : Fr), fr.get k = fr2.get k → (∀ y ∈ pre, y.d.o.dst = some k → L y.i = true) → (eFr L pre fr).get k = (pFr pre fr2).get k
  | [], _, _, e, _ => e
  | y :: l, fr, fr2, e, h => by
    rw [eFr, pFr]
    refine pFr_get l _ _ ?_ fun z hz => h z (by simp [hz])
    by_cases hd : y.d.o.dst = some k
    · rw [h y (by simp) hd, if_pos rfl, hd]
      simp only [putV, Tr.get_upd, if_true]
    · rw [putV_get hd]
      split
      · rw [putV_get hd]; exact e
      · exact e
theorem eHeap_get {L : Nat → Bool} {b : Key} : ∀ (l : List Ev) (h : Heap), (∀ y ∈ l, ∀ k x, y.al = some (k, x) → k ≠ b) → (eHeap L l h).get b = h.get b
  | [], _, _ => rfl
  | y :: l, h, hk => by
    rw [eHeap, eHeap_get l _ fun z hz => hk z (by simp [hz])]
    split
    · unfold Ev.put
      split
      · next k x hal => exact upd_get_ne (hk y (by simp) k x hal) _
      · rfl
    · rfl
theorem fetch_congr {fr fr2 : Fr} : ∀ (xs : List VX), (∀ k, VX.t k ∈ xs → fr.get k = fr2.get k) → fetch fr xs = fetch fr2 xs
  | [], _ => rfl
  | x :: l, h => by
    have h1 : x.eval fr = x.eval fr2 := by
      cases x with
      | t k => exact h k (by simp)
      | c v => rfl
    simp only [fetch, h1, fetch_congr l fun k hk => h k (by simp [hk])]
theorem looks_args {o : VOper} {k : Key} (h : VX.t k ∈ o.args) : k ∈ looks o := by
  unfold looks
  exact List.mem_append_left _ (List.mem_filterMap.2 ⟨_, h, rfl⟩)
theorem looks_guard {o : VOper} {k : Key} {b : Bool} (h : o.guard = some (k, b)) : k ∈ looks o := by
  unfold looks
  rw [h]
  exact List.mem_append_right _ (by simp)
theorem wanted_congr {fr fr2 : Fr} {o : VOper} (h : ∀ k ∈ looks o, fr.get k = fr2.get k) : wantedV fr o.guard = wantedV fr2 o.guard := by
  cases hg : o.guard with
  | none => rfl
  | some p => obtain ⟨k, b⟩ := p; simp only [wantedV, h k (looks_guard hg)]
section
variable {call : Caller} {lo hi : Key}
theorem step_heap {x : Ev} {r : Key} {snaps : List Heap} {fr : Fr} {h h1 : Heap} (s : StepOk call lo hi x r snaps fr h h1) (hk : x.d.o.act.kind ≠ .effect) : h1 = x.put h := by
  rcases s with ⟨_, args, _, hm⟩ | ⟨_, _, ha, rfl⟩
  · split at hm
    · next e => exact absurd e hk
    · obtain ⟨o, blk, _, ha, _, rfl⟩ := hm; simp only [Ev.put, ha]
    · obtain ⟨o, _, ha, _, _, _, rfl⟩ := hm; simp only [Ev.put, ha]
  · simp only [Ev.put, ha]
theorem step_al {x : Ev} {r : Key} {snaps : List Heap} {fr : Fr} {h h1 : Heap} (s : StepOk call lo hi x r snaps fr h h1) {k : Key} {b : Blk} (ha : x.al = some (k, b)) : k = r ∧ b.anc = [] ∧ x.d.o.act.kind = .alloc := by
  rcases s with ⟨_, args, _, hm⟩ | ⟨_, _, ha', _⟩
  · split at hm
    · rw [ha] at hm; cases hm.1
    · next hk =>
      obtain ⟨o, blk, ho, ha', hr, _⟩ := hm
      rw [ha] at ha'
      cases ha'
      have hko : o.kind = .alloc := by rw [ho] at hk; exact hk
      obtain ⟨blk, hb, he, _⟩ := alloc_run hko hr
      have := congrArg (fun g => Heap.get g r) he
      simp only [get_newB, if_true, Option.some.injEq] at this
      exact ⟨rfl, this ▸ hb, hk⟩
    · obtain ⟨o, _, ha', _⟩ := hm; rw [ha] at ha'; cases ha'
  · rw [ha] at ha'; cases ha'
theorem run_keys : ∀ (evs : List Ev) {r : Key} {snaps : List Heap} {fr : Fr} {h : Heap} {fr' : Fr} {h' : Heap}, Run call lo hi evs r snaps fr h fr' h' →
    (∀ x ∈ evs, ∀ k b, x.al = some (k, b) → r.toNat ≤ k.toNat ∧ k.toNat < r.toNat + nAlloc (evs.map (·.d)) ∧ b.anc = []) ∧
    evs.Pairwise fun x y => ∀ k b k' b', x.al = some (k, b) → y.al = some (k', b') → k ≠ k'
  | [], _, _, _, _, _, _, _ => ⟨by simp, .nil⟩
  | x :: l, r, snaps, fr, h, fr', h', e => by
    obtain ⟨h1, s, e⟩ := e
    obtain ⟨g1, g2⟩ := run_keys l e
    have hr : r.toNat ≤ (nextKey x r).toNat ∧ (nextKey x r).toNat = r.toNat + (if x.d.o.act.kind = .alloc then 1 else 0) := by
      unfold nextKey
      split <;> simp [Key.toNat_succ]
    simp only [List.map_cons, nAlloc]
    refine ⟨fun y hy k b ha => ?_, ?_⟩
    · rcases List.mem_cons.1 hy with rfl | hy
      · obtain ⟨rfl, h2, h3⟩ := step_al s ha
        exact ⟨Nat.le_refl _, by rw [if_pos h3]; omega, h2⟩
      · obtain ⟨h2, h3, h4⟩ := g1 y hy k b ha
        exact ⟨by omega, by omega, h4⟩
    · refine .cons (fun y hy k b k' b' ha hb => ?_) g2
      obtain ⟨rfl, _, h3⟩ := step_al s ha
      obtain ⟨h2, _, _⟩ := g1 y hy k' b' hb
      rw [hr.2, if_pos h3] at h2
      rintro rfl
      omega
theorem run_find {x : Ev} {post : List Ev} : ∀ (pre : List Ev) {r : Key} {snaps : List Heap} {fr : Fr} {h : Heap} {fr' : Fr} {h' : Heap}, Run call lo hi (pre ++ x :: post) r snaps fr h fr' h' →
    (∀ y ∈ pre, ∀ k b, y.al = some (k, b) → lo.toNat ≤ k.toNat ∧ k.toNat < hi.toNat) →
    ∃ r1 snaps1 h1 h2, StepOk call lo hi x r1 (snaps ++ snaps1) (pFr pre fr) h1 h2 ∧ ∃ hs ∈ snaps1 ++ [h1], ∀ b : Key, b.toNat < lo.toNat ∨ hi.toNat ≤ b.toNat → hs.get b = h.get b
  | [], r, snaps, fr, h, fr', h', e, _ => by
    obtain ⟨h1, s, _⟩ := e
    exact ⟨r, [], h, h1, by simpa [pFr] using s, h, by simp, fun _ _ => rfl⟩
  | y :: pre, r, snaps, fr, h, fr', h', e, hk => by
    obtain ⟨h1, s, e⟩ := e
    obtain ⟨r1, snaps1, g1, g2, s1, hs, hm, hg⟩ := run_find pre e fun z hz => hk z (by simp [hz])
    by_cases hy : y.d.o.act.kind = .effect
    · refine ⟨r1, h :: snaps1, g1, g2, ?_, h, by simp, fun _ _ => rfl⟩
      simpa [nextSnaps, hy, pFr] using s1
    · refine ⟨r1, snaps1, g1, g2, ?_, hs, hm, fun b hb => ?_⟩
      · simpa [nextSnaps, hy, pFr] using s1
      · rw [hg b hb, step_heap s hy]
        unfold Ev.put
        split
        · next k blk hal =>
          have := hk y (by simp) k blk hal
          exact upd_get_ne (by rintro rfl; omega) _
        · rfl
theorem sameIn_mem {o : VOp} {args : List AV} {v : AV} : ∀ {l : List Heap} {hs : Heap}, sameIn o args v l = true → hs ∈ l → ∃ g, o.run args hs = some (v, g)
  | h :: l, hs, e, hm => by
    simp only [sameIn, Bool.and_eq_true] at e
    rcases List.mem_cons.1 hm with rfl | hm
    · have e1 := e.1
      split at e1
      · next u g hu =>
        simp only [AV.beq, decide_eq_true_eq] at e1
        exact ⟨g, by rw [hu, e1]⟩
      · cases e1
    · exact sameIn_mem e.2 hm
end
end Go.Vm
end
section
namespace Go.Vm
open Key (kn)
structure Reg (P : Program) (N : Nat) (ops : Array Oper) (vs : List VOper) : Prop where
  len : vs.length = ops.size
  ok : ∀ (i : Nat) o, ops[i]? = some o → ∃ vo, vs[i]? = some vo ∧ cOper P N ops o = some vo
  down : EdgesDown ops.toList
  dst : ∀ (i j : Nat) x y k, vs[i]? = some x → vs[j]? = some y → i ≠ j → x.dst = some k → y.dst ≠ some k
  apart : ∀ (i j : Nat) x y, vs[i]? = some x → vs[j]? = some y → i ≠ j → before (masks ops.toList) i j = true ∨ before (masks ops.toList) j i = true ∨ apartV x y = true
structure Rest (ops : Array Oper) (vs : List VOper) (lo hi : Key) (evs : List Ev) (snaps : List Heap) (h : Heap) : Prop where
  idx : ∀ x ∈ evs, vs[x.i]? = some x.d.o ∧ x.d.chk = chkOf (masks ops.toList) (effIdx vs) x.i
  pw : evs.Pairwise fun x y => x.i ≠ y.i ∧ before (masks ops.toList) y.i x.i = false ∧ (y.d.o.act.kind = .effect → before (masks ops.toList) x.i y.i = true)
  snaps : ((effIdx vs).filter fun j => decide (∀ x ∈ evs, x.i ≠ j)).length ≤ snaps.length
  kpw : evs.Pairwise fun x y => ∀ k b k' b', x.al = some (k, b) → y.al = some (k', b') → k ≠ k'
  key : ∀ x ∈ evs, ∀ k b, x.al = some (k, b) → Fresh k h ∧ k.toNat < h.next.toNat ∧ lo.toNat ≤ k.toNat ∧ k.toNat < hi.toNat ∧ b.anc = []
  hi : hi.toNat ≤ h.next.toNat
  clean : Clean h
structure Up (ops : Array Oper) (vs : List VOper) (evs : List Ev) (L : Nat → Bool) : Prop where
  rest : ∀ i, i < vs.length → (∀ x ∈ evs, x.i ≠ i) → L i = true
  early : ∀ x ∈ evs, L x.i = true → x.d.o.act.kind ≠ .effect
  closed : Closed ops.toList L
structure Stand (N : Nat) (lo : Nat) (φ0 : Emb) (g0 : Mem) (w0 : World) (L : Nat → Bool) (evs : List Ev) (fr : Fr) (h : Heap) (φ : Emb) (a : Act) (w : World) : Prop where
  fr : FrRel φ N (eFr L evs fr) a
  sim : Sim φ (eHeap L evs h).get h.next.toNat w
  ext : Ext φ0 g0 lo w0 φ (eHeap L evs h).get h.next.toNat w
  unl : ∀ x ∈ evs, L x.i = false → ∀ k b, x.al = some (k, b) → φ k = none
theorem mem_effIdx {vs : List VOper} {j : Nat} : j ∈ effIdx vs ↔ ∃ o, vs[j]? = some o ∧ o.act.kind = .effect := by
  unfold effIdx
  constructor
  · intro h
    obtain ⟨⟨o, i⟩, hp, rfl⟩ := List.mem_map.1 h
    obtain ⟨h1, h2⟩ := List.mem_filter.1 hp
    exact ⟨o, List.mem_zipIdx_iff_getElem?.1 h1, by simpa using h2⟩
  · rintro ⟨o, ho, hk⟩
    exact List.mem_map.2 ⟨(o, j), List.mem_filter.2 ⟨List.mem_zipIdx_iff_getElem?.2 ho, by simpa using hk⟩, rfl⟩
theorem nodup_effIdx (vs : List VOper) : (effIdx vs).Nodup := by
  unfold effIdx
  have h : ((vs.zipIdx.filter fun p => decide (p.1.act.kind = .effect)).map (·.2)).Sublist (vs.zipIdx.map (·.2)) := List.Sublist.map _ List.filter_sublist
  refine h.nodup ?_
  have := List.zipIdx_map_snd 0 vs
  rw [show (vs.zipIdx.map (·.2)) = List.range' 0 vs.length from this]
  exact List.nodup_range'
theorem filter_le {p q : Nat → Bool} : ∀ (l : List Nat), (∀ a ∈ l, p a = true → q a = true) → (l.filter p).length ≤ (l.filter q).length
  | [], _ => Nat.le_refl _
  | a :: l, h => by
    have ih := filter_le l fun b hb => h b (by simp [hb])
    simp only [List.filter_cons]
    cases hp : p a with
    | false => simp only [Bool.false_eq_true, if_false]; split <;> simp <;> omega
    | true => rw [if_pos rfl, if_pos (h a (by simp) hp)]; simp; omega
theorem filter_le_one {p q : Nat → Bool} {c : Nat} : ∀ (l : List Nat), l.Nodup → (∀ a ∈ l, p a = true → a ≠ c → q a = true) → (l.filter p).length ≤ (l.filter q).length + 1
  | [], _, _ => by simp
  | a :: l, hn, h => by
    obtain ⟨h1, h2⟩ := List.nodup_cons.1 hn
    by_cases hc : a = c
    · subst hc
      have := filter_le (p := p) (q := q) l fun b hb hp => h b (by simp [hb]) hp (by rintro rfl; exact h1 hb)
      simp only [List.filter_cons]
      split <;> split <;> simp <;> omega
    · have ih := filter_le_one (p := p) (q := q) l h2 fun b hb => h b (by simp [hb])
      simp only [List.filter_cons]
      cases hp : p a with
      | false => simp only [Bool.false_eq_true, if_false]; split <;> simp <;> omega
      | true => rw [if_pos rfl, if_pos (h a (by simp) hp hc)]; simp; omega
section
variable {P : Program} {call : Caller} {N : Nat} {ops : Array Oper} {vs : List VOper} {lo hi : Key}
theorem chk_le (hreg : Reg P N ops vs) {evs : List Ev} {snaps : List Heap} {h : Heap} {L : Nat → Bool} (hr : Rest ops vs lo hi evs snaps h) (hu : Up ops vs evs L) {x : Ev} (hx : x ∈ evs) {o : Oper} (ho : ops[x.i]? = some o)
    (hd : ∀ k ∈ direct o, L k = true) : x.d.chk ≤ snaps.length := by
  rw [(hr.idx x hx).2]
  refine Nat.le_trans (filter_le (effIdx vs) fun j hj hb => ?_) hr.snaps
  have hl : L j = true := hu.closed.ready hreg.down (o := o) (by simpa using ho) hd hb
  simp only [decide_eq_true_eq]
  rintro y hy rfl
  obtain ⟨o', ho', hk⟩ := mem_effIdx.1 hj
  rw [(hr.idx y hy).1] at ho'
  cases ho'
  exact hu.early y hy hl hk
theorem absorb_one {evs : List Ev} {x : Ev} {r : Key} {snaps : List Heap} {fr : Fr} {h : Heap} {fr' : Fr} {h' : Heap} {L : Nat → Bool} (hr : Rest ops vs lo hi (x :: evs) snaps h) (hu : Up ops vs (x :: evs) L) (hx : L x.i = true)
    (hrun : Run call lo hi (x :: evs) r snaps fr h fr' h') : ∃ r1, Rest ops vs lo hi evs snaps (x.put h) ∧ Up ops vs evs L ∧ Run call lo hi evs r1 snaps (putV fr x.d.o.dst x.v) (x.put h) fr' h' := by
  have hk := hu.early x (by simp) hx
  obtain ⟨h1, s, hrun⟩ := hrun
  have hh := step_heap s hk
  subst hh
  have hpw := List.pairwise_cons.1 hr.pw
  have hkpw := List.pairwise_cons.1 hr.kpw
  refine ⟨_, ⟨fun y hy => hr.idx y (by simp [hy]), hpw.2, ?_, hkpw.2, fun y hy k b ha => ?_, by rw [put_next]; exact hr.hi, ?_⟩, ⟨fun i hi hn => ?_, fun y hy => hu.early y (by simp [hy]), hu.closed⟩, by simpa [nextSnaps, hk] using hrun⟩
  · refine Nat.le_trans (filter_le _ fun j hj hp => ?_) hr.snaps
    simp only [decide_eq_true_eq] at hp ⊢
    intro y hy
    rcases List.mem_cons.1 hy with rfl | hy
    · rintro rfl
      obtain ⟨o', ho', hk'⟩ := mem_effIdx.1 hj
      rw [(hr.idx y (by simp)).1] at ho'
      cases ho'
      exact hk hk'
    · exact hp y hy
  · obtain ⟨h1, h2, h3, h4, h5⟩ := hr.key y (by simp [hy]) k b ha
    refine ⟨?_, by rw [put_next]; exact h2, h3, h4, h5⟩
    unfold Ev.put
    split
    · next k0 b0 hal =>
      refine h1.upd (Ne.symm (hkpw.1 y hy k0 b0 k b hal ha)) _ ?_
      intro z hz
      cases hz
      rw [(hr.key x (by simp) k0 b0 hal).2.2.2.2]
      simp
    · exact h1
  · unfold Ev.put
    split
    · next k0 b0 hal =>
      obtain ⟨_, h2, _, _, h5⟩ := hr.key x (by simp) k0 b0 hal
      exact clean_upd hr.clean h2 h5
    · exact hr.clean
  · by_cases hxi : x.i = i
    · exact hxi ▸ hx
    · refine hu.rest i hi fun y hy => ?_
      rcases List.mem_cons.1 hy with rfl | hy
      · exact hxi
      · exact hn y hy
theorem stand_absorb {lo0 : Nat} {φ0 : Emb} {g0 : Mem} {w0 : World} {evs : List Ev} {x : Ev} {fr : Fr} {h : Heap} {L : Nat → Bool} {φ : Emb} {a : Act} {w : World} (hx : L x.i = true) (st : Stand N lo0 φ0 g0 w0 L (x :: evs) fr h φ a w) :
    Stand N lo0 φ0 g0 w0 L evs (putV fr x.d.o.dst x.v) (x.put h) φ a w := by
  obtain ⟨h1, h2, h3, h4⟩ := st
  simp only [eFr, eHeap, hx, if_true] at h1 h2 h3
  refine ⟨h1, by rw [put_next]; exact h2, by rw [put_next]; exact h3, fun y hy => h4 y (by simp [hy])⟩
def todo (L : Nat → Bool) (evs : List Ev) : Nat := (evs.filter fun x => !L x.i).length
theorem absorb {lo0 : Nat} {φ0 : Emb} {g0 : Mem} {w0 : World} {L : Nat → Bool} {φ : Emb} {a : Act} {w : World} {fr' : Fr} {h' : Heap} : ∀ (evs : List Ev) {r : Key} {snaps : List Heap} {fr : Fr} {h : Heap},
    Rest ops vs lo hi evs snaps h → Up ops vs evs L → Run call lo hi evs r snaps fr h fr' h' → Stand N lo0 φ0 g0 w0 L evs fr h φ a w →
    ∃ evs' r' fr'' h'', Rest ops vs lo hi evs' snaps h'' ∧ Up ops vs evs' L ∧ Run call lo hi evs' r' snaps fr'' h'' fr' h' ∧ Stand N lo0 φ0 g0 w0 L evs' fr'' h'' φ a w ∧ todo L evs' = todo L evs ∧ ∀ x l, evs' = x :: l → L x.i = false
  | [], r, snaps, fr, h, hr, hu, hrun, st => ⟨[], r, fr, h, hr, hu, hrun, st, rfl, by simp⟩
  | x :: l, r, snaps, fr, h, hr, hu, hrun, st => by
    cases hx : L x.i with
    | false => exact ⟨x :: l, r, fr, h, hr, hu, hrun, st, rfl, by rintro y l' e; cases e; exact hx⟩
    | true =>
      obtain ⟨r1, g1, g2, g3⟩ := absorb_one hr hu hx hrun
      obtain ⟨evs', r', fr'', h'', k1, k2, k3, k4, k5, k6⟩ := absorb l g1 g2 g3 (stand_absorb hx st)
      exact ⟨evs', r', fr'', h'', k1, k2, k3, k4, by rw [k5]; simp [todo, hx], k6⟩
theorem operands (hreg : Reg P N ops vs) {L : Nat → Bool} {x : Ev} {pre post : List Ev} {snaps : List Heap} {h : Heap} (hr : Rest ops vs lo hi (pre ++ x :: post) snaps h) (hu : Up ops vs (pre ++ x :: post) L) (hx : L x.i = false) {o : Oper} (ho : ops[x.i]? = some o)
    (hd : ∀ k ∈ direct o, L k = true) (fr : Fr) : ∀ k ∈ looks x.d.o, (eFr L (pre ++ x :: post) fr).get k = (pFr pre fr).get k := by
  intro k hk
  have hpw := List.pairwise_append.1 hr.pw
  have hpost := List.pairwise_cons.1 hpw.2.1
  have hix := (hr.idx x (by simp)).1
  rw [eFr_append]
  have hap : ∀ y ∈ pre ++ x :: post, y.i ≠ x.i → y.d.o.dst = some k → before (masks ops.toList) y.i x.i = true ∨ before (masks ops.toList) x.i y.i = true := by
    intro y hy hne hdst
    rcases hreg.apart y.i x.i _ _ (hr.idx y hy).1 hix hne with h1 | h1 | h1
    · exact .inl h1
    · exact .inr h1
    · exfalso
      unfold apartV at h1
      simp only [hdst, Bool.and_eq_true, Bool.not_eq_true'] at h1
      have := h1.1
      rw [List.contains_eq_mem] at this
      simp [hk] at this
  rw [eFr_get]
  · refine pFr_get pre fr fr rfl fun y hy hdst => ?_
    obtain ⟨hne, hb, _⟩ := hpw.2.2 y hy x (by simp)
    rcases hap y (by simp [hy]) hne hdst with h1 | h1
    · exact hu.closed.ready hreg.down (o := o) (by simpa using ho) hd h1
    · rw [hb] at h1; cases h1
  · intro y hy hdst
    rcases List.mem_cons.1 hy with rfl | hy
    · exact hx
    · obtain ⟨hne, hb, _⟩ := hpost.1 y hy
      rcases hap y (by simp [hy]) (Ne.symm hne) hdst with h1 | h1
      · rw [hb] at h1; cases h1
      · cases hl : L y.i with
        | false => rfl
        | true =>
          have := hu.closed.anc hreg.down (y.i + 1) y.i (by omega) h1 hl
          rw [hx] at this; cases this
theorem oper_at (hcall : CallOk P call) {o : Oper} {vo : VOper} (hc : cOper P N ops o = some vo) {φ : Emb} {fr : Fr} {a : Act} {h h' : Heap} {nx : Nat} {w : World} {v : AV} (hfr : FrRel φ N fr a)
    (s : Sim φ h.get nx w) (hb : φ h.next = none) (hnx : (∀ o, vo.act ≠ .op o) → nx = h.next.toNat ∧ Clean h)
    (hrun : (wantedV fr vo.guard = some true ∧ ∃ args, fetch fr vo.args = some args ∧ vo.act.run call args h = some (v, h')) ∨ (wantedV fr vo.guard = some false ∧ v = .unit ∧ h' = h))
    {K : Act → World → Prop} {Q : Exit → Act → World → Prop}
    (hK : ∀ a' w' φ', (∀ nx', nx ≤ nx' → h'.next.toNat ≤ nx' → Sim φ' h'.get nx' w') → Ext φ h.get h.next.toNat w φ' h'.get h'.next.toNat w' → FrRel φ' N (putV fr vo.dst v) a' → K a' w') :
    if Region.wanted o (yielded ops a.tmps) then o.wp P a w K Q ∨ (o.asks P a w ∧ LetsOut Q) else K (a.put o.dst undef) w := by
  obtain ⟨hd, hdst, ⟨g, hg, hvg⟩, _⟩ := cOper_spec hc
  rcases hrun with ⟨hw, args, hf, hact⟩ | ⟨hw, rfl, rfl⟩
  · rw [hvg] at hw
    rw [wanted_ok hfr hg hw, if_pos rfl]
    refine .inl (act_step hcall hc hfr s hb hnx hf hact fun v' w' φ' h1 h2 h3 => hK _ _ φ' h1 h2 ?_)
    rw [hdst]
    exact (hfr.mono h2.le).put hd h3
  · rw [hvg] at hw
    rw [wanted_ok hfr hg hw]
    simp only [Bool.false_eq_true, if_false]
    refine hK _ _ φ (fun nx' h1 _ => s.up h1) (Ext.refl _ _ _ _) ?_
    rw [hdst]
    exact hfr.put hd ⟨[], rfl, .nil⟩
theorem Ext.within {φ0 : Emb} {g0 : Mem} {lo n r r' : Nat} {w0 w w' : World} {φ φ' : Emb} {g g' : Mem} (e : Ext φ0 g0 lo w0 φ g n w) (e' : Ext φ g r w φ' g' r' w') (h1 : lo ≤ r) (h2 : r' ≤ n) : Ext φ0 g0 lo w0 φ' g' n w' where
  le := e.le.trans e'.le
  only b hb hr := e'.only b (e.only b hb hr) (by have := e'.nx; omega)
  nx := e.nx
  size := Nat.le_trans e.size e'.size
  frame r0 o hr hn := by
    refine e'.frame r0 o (e.frame r0 o hr hn) fun b x l h1 h2 h3 h4 => ?_
    have hlt : r0 < w0.heap.size := (Array.getElem?_eq_some_iff.1 hr).1
    obtain ⟨b0, x0, l0, e1, e2, e3, e4⟩ := e.own b x l h1 h2 h3 (h4 ▸ hlt)
    exact hn b0 x0 l0 e1 e2 e3 (e4.trans h4)
  own b x l h1 h2 h3 h4 := by
    obtain ⟨b1, x1, l1, e1, e2, e3, e4⟩ := e'.own b x l h1 h2 h3 (Nat.lt_of_lt_of_le h4 e.size)
    obtain ⟨b0, x0, l0, f1, f2, f3, f4⟩ := e.own b1 x1 l1 e1 e2 e3 (e4 ▸ h4)
    exact ⟨b0, x0, l0, f1, f2, f3, f4.trans e4⟩
  new b l h1 h2 h3 := by
    cases hb : φ b with
    | none =>
      obtain ⟨b1, x1, l1, e1, e2, e3, e4⟩ := e'.new b l hb h2 (Nat.lt_of_lt_of_le h3 e.size)
      obtain ⟨b0, x0, l0, f1, f2, f3, f4⟩ := e.own b1 x1 l1 e1 e2 e3 (e4 ▸ h3)
      exact ⟨b0, x0, l0, f1, f2, f3, f4.trans e4⟩
    | some l1 =>
      have := e'.le b l1 hb
      rw [h2] at this
      cases this
      exact e.new b l h1 hb h3
  os := ⟨e'.os.1.trans e.os.1, e'.os.2.trans e.os.2⟩
theorem clean_eHeap (L : Nat → Bool) : ∀ (l : List Ev) (h : Heap), Clean h → (∀ x ∈ l, ∀ k b, x.al = some (k, b) → k.toNat < h.next.toNat ∧ b.anc = []) → Clean (eHeap L l h)
  | [], _, hc, _ => hc
  | x :: l, h, hc, hk => by
    rw [eHeap]
    have hp : Clean (x.put h) := by
      unfold Ev.put
      split
      · next k b ha => exact clean_upd hc (hk x (by simp) k b ha).1 (hk x (by simp) k b ha).2
      · exact hc
    refine clean_eHeap L l _ (by split <;> assumption) fun y hy k b ha => ?_
    have := hk y (by simp [hy]) k b ha
    split
    · rw [put_next]; exact this
    · exact this
theorem nice_early {α : Type} {f : Heap → Option (α × Heap)} (hf : Nice f) (L : Nat → Bool) : ∀ (l : List Ev) {h h' : Heap} {v : α}, f h = some (v, h') →
    (∀ x ∈ l, ∀ k b, x.al = some (k, b) → Fresh k h ∧ k.toNat < h.next.toNat ∧ b.anc = []) → (l.Pairwise fun x y => ∀ k b k' b', x.al = some (k, b) → y.al = some (k', b') → k ≠ k') →
    f (eHeap L l h) = some (v, eHeap L l h') ∧ ∀ x ∈ l, ∀ k b, x.al = some (k, b) → Fresh k h'
  | [], _, _, _, e, _, _ => ⟨e, by simp⟩
  | x :: l, h, h', v, e, hk, hp => by
    have hpc := List.pairwise_cons.1 hp
    have hfresh : ∀ y ∈ x :: l, ∀ k b, y.al = some (k, b) → Fresh k h' := fun y hy k b ha => by
      obtain ⟨h1, h2, _⟩ := hk y hy k b ha
      exact ((hf h v h' e).2 k default h2 h1).1
    refine ⟨?_, hfresh⟩
    simp only [eHeap]
    cases hx : L x.i with
    | false =>
      simp only [Bool.false_eq_true, if_false]
      exact (nice_early hf L l e (fun y hy => hk y (by simp [hy])) hpc.2).1
    | true =>
      simp only [if_true]
      unfold Ev.put
      split
      · next k b ha =>
        obtain ⟨h1, h2, h3⟩ := hk x (by simp) k b ha
        refine (nice_early hf L l ((hf h v h' e).2 k b h2 h1).2 (fun y hy k' b' ha' => ?_) hpc.2).1
        obtain ⟨g1, g2, g3⟩ := hk y (by simp [hy]) k' b' ha'
        refine ⟨g1.upd (Ne.symm (hpc.1 y hy k b k' b' ha ha')) _ (by intro z hz; cases hz; simp [h3]), g2, g3⟩
      · exact (nice_early hf L l e (fun y hy => hk y (by simp [hy])) hpc.2).1
end
end Go.Vm
end
section
namespace Go.Vm
open Key (kn)
theorem alloc_like {o : VOp} (hk : o.kind = .alloc) {args : List AV} {h : Heap} {r : Key} {v : AV} {blk : Blk} (e : o.run args { h with next := r } = some (v, ({ h with next := r } : Heap).newB blk)) (h2 : Heap) (hn : h2.next = r) :
    o.run args h2 = some (v, h2.newB blk) := by
  obtain ⟨b2, _, he, hall⟩ := alloc_run hk e
  have := congrArg (fun g => Heap.get g r) he
  simp only [get_newB, if_true, Option.some.injEq] at this
  rw [this]
  exact hall h2 hn
section
variable {P : Program} {call : Caller} {N : Nat} {ops : Array Oper} {vs : List VOper} {lo hi : Key}
theorem closed_up {L : Nat → Bool} (hc : Closed ops.toList L) {i : Nat} {o : Oper} (ho : ops[i]? = some o) (hd : ∀ k ∈ direct o, L k = true) : Closed ops.toList (upL L i) := by
  intro j o' hj hl k hk
  unfold upL at hl ⊢
  split at hl
  · next e =>
    subst e
    have : o' = o := by
      have h1 : ops[j]? = some o' := by simpa using hj
      rw [ho] at h1; exact (Option.some.inj h1).symm
    subst this
    split
    · rfl
    · exact hd k hk
  · split
    · rfl
    · exact hc j o' hj hl k hk
theorem Up.up {evs : List Ev} {L : Nat → Bool} {snaps : List Heap} {h : Heap} (hr : Rest ops vs lo hi evs snaps h) (hu : Up ops vs evs L) {x : Ev} (hx : x ∈ evs) (hk : x.d.o.act.kind ≠ .effect) {o : Oper} (ho : ops[x.i]? = some o) (hd : ∀ k ∈ direct o, L k = true) : Up ops vs evs (upL L x.i) := by
  refine ⟨fun i hi hn => ?_, fun y hy hl => ?_, closed_up hu.closed ho hd⟩
  · unfold upL; split
    · rfl
    · exact hu.rest i hi hn
  · unfold upL at hl
    split at hl
    · next e =>
      have h1 := (hr.idx y hy).1
      rw [e, (hr.idx x hx).1] at h1
      rw [← Option.some.inj h1]; exact hk
    · exact hu.early y hy hl
theorem todo_up {L : Nat → Bool} {x : Ev} (hx : L x.i = false) : ∀ (evs : List Ev), x ∈ evs → todo (upL L x.i) evs < todo L evs := by
  have le : ∀ evs : List Ev, todo (upL L x.i) evs ≤ todo L evs := by
    intro evs
    induction evs with
    | nil => exact Nat.le_refl _
    | cons y l ih =>
      simp only [todo, List.filter_cons] at ih ⊢
      by_cases hy : y.i = x.i
      · simp only [upL, hy, if_true, Bool.not_true, Bool.false_eq_true, if_false]
        split <;> simp [upL] at ih ⊢ <;> omega
      · simp only [upL, hy, if_false] at ih ⊢
        split <;> simp at ih ⊢ <;> omega
  intro evs
  induction evs with
  | nil => intro h; cases h
  | cons y l ih =>
    intro hm
    rcases List.mem_cons.1 hm with rfl | hm
    · have := le l
      simp only [todo, List.filter_cons, upL, if_true, Bool.not_true, Bool.false_eq_true, if_false, hx, Bool.not_false, List.length_cons] at this ⊢
      omega
    · have := ih hm
      by_cases hy : y.i = x.i
      · have h1 := le l
        simp only [todo, List.filter_cons, upL, hy, if_true, Bool.not_true, Bool.false_eq_true, if_false, hx, Bool.not_false, List.length_cons] at h1 ⊢
        omega
      · simp only [todo, List.filter_cons, upL, hy, if_false] at this ⊢
        split <;> simp at this ⊢ <;> omega
theorem early_step (hcall : CallOk P call) (hreg : Reg P N ops vs) {L : Nat → Bool} {x : Ev} {pre post : List Ev} {r : Key} {snaps : List Heap} {fr : Fr} {h : Heap} {fr' : Fr} {h' : Heap}
    (hr : Rest ops vs lo hi (pre ++ x :: post) snaps h) (hu : Up ops vs (pre ++ x :: post) L) (hx : L x.i = false) (hk : x.d.o.act.kind ≠ .effect) {o : Oper} (ho : ops[x.i]? = some o) (hd : ∀ k ∈ direct o, L k = true)
    (hrun : Run call lo hi (pre ++ x :: post) r snaps fr h fr' h') {φ0 : Emb} {g0 : Mem} {w0 : World} {φ : Emb} {a : Act} {w : World} (st : Stand N lo.toNat φ0 g0 w0 L (pre ++ x :: post) fr h φ a w)
    {K : Act → World → Prop} {Q : Exit → Act → World → Prop} (hK : ∀ a' w' φ', Stand N lo.toNat φ0 g0 w0 (upL L x.i) (pre ++ x :: post) fr h φ' a' w' → K a' w') : wpOp P ops Q x.i K a w := by
  have hmem : x ∈ pre ++ x :: post := by simp
  obtain ⟨vo, hvo, hc⟩ := hreg.ok x.i o ho
  rw [(hr.idx x hmem).1] at hvo
  cases hvo
  have hpw := List.pairwise_append.1 hr.pw
  have hpost := List.pairwise_cons.1 hpw.2.1
  have hne : ∀ y ∈ pre ++ post, y.i ≠ x.i := by
    intro y hy
    rcases List.mem_append.1 hy with hy | hy
    · exact (hpw.2.2 y hy x (by simp)).1
    · exact Ne.symm (hpost.1 y hy).1
  have hkpw := List.pairwise_append.1 hr.kpw
  have hkpost := List.pairwise_cons.1 hkpw.2.1
  have hkne : ∀ y ∈ pre ++ x :: post, y.i ≠ x.i → ∀ k b k' b', x.al = some (k, b) → y.al = some (k', b') → k ≠ k' := by
    intro y hy hyi k b k' b' h1 h2
    rcases List.mem_append.1 hy with hy | hy
    · exact Ne.symm (hkpw.2.2 y hy x (by simp) k' b' k b h2 h1)
    · rcases List.mem_cons.1 hy with rfl | hy
      · exact absurd rfl hyi
      · exact hkpost.1 y hy k b k' b' h1 h2
  have hFr : eFr (upL L x.i) (pre ++ x :: post) fr = putV (eFr L (pre ++ x :: post) fr) x.d.o.dst x.v :=
    eFr_mid hx hne fun y hy k e => hreg.dst x.i y.i _ _ k (hr.idx x hmem).1 (hr.idx y (by simp [hy])).1 (Ne.symm (hne y (by simp [hy]))) e
  have hHe : eHeap (upL L x.i) (pre ++ x :: post) h = x.put (eHeap L (pre ++ x :: post) h) := eHeap_mid hx hne fun y hy k b k' b' => hkpost.1 y hy k b k' b'
  have hop := operands hreg hr hu hx ho hd fr
  have hwant := wanted_congr (o := x.d.o) hop
  obtain ⟨r1, snaps1, h1, h2, s, hs, hm, hg⟩ := run_find pre hrun fun y hy k b ha => by
    obtain ⟨_, _, e1, e2, _⟩ := hr.key y (by simp [hy]) k b ha
    exact ⟨e1, e2⟩
  unfold wpOp
  simp only [ho]
  have hb : φ (eHeap L (pre ++ x :: post) h).next = none := st.sim.fresh _ (by rw [eHeap_next]; exact Nat.le_refl _)
  have quiet : x.al = none → (∀ o, x.d.o.act ≠ .op o) → False := fun _ hn => by
    cases hact : x.d.o.act with
    | op p => exact hn p hact
    | call f => rw [hact] at hk; exact hk rfl
    | callv => rw [hact] at hk; exact hk rfl
  have same : x.al = none → ∀ a' w' φ', (∀ nx', h.next.toNat ≤ nx' → (eHeap L (pre ++ x :: post) h).next.toNat ≤ nx' → Sim φ' (eHeap L (pre ++ x :: post) h).get nx' w') →
      Ext φ (eHeap L (pre ++ x :: post) h).get (eHeap L (pre ++ x :: post) h).next.toNat w φ' (eHeap L (pre ++ x :: post) h).get (eHeap L (pre ++ x :: post) h).next.toNat w' → FrRel φ' N (putV (eFr L (pre ++ x :: post) fr) x.d.o.dst x.v) a' → K a' w' := by
    intro hal a' w' φ' s1 e1 f1
    have hput : x.put (eHeap L (pre ++ x :: post) h) = eHeap L (pre ++ x :: post) h := by simp only [Ev.put, hal]
    rw [eHeap_next] at s1 e1
    refine hK a' w' φ' ⟨by rw [hFr]; exact f1, by rw [hHe, hput]; exact s1 _ (Nat.le_refl _) (Nat.le_refl _), by rw [hHe, hput]; exact st.ext.trans e1, fun y hy hl k b ha => ?_⟩
    refine e1.only k (st.unl y hy ?_ k b ha) (by omega)
    unfold upL at hl
    split at hl
    · cases hl
    · exact hl
  rcases s with ⟨hw, args, hf, hmm⟩ | ⟨hw, hv, hal, _⟩
  · have hfetch : fetch (eFr L (pre ++ x :: post) fr) x.d.o.args = some args := by
      rw [fetch_congr _ fun k hk' => hop k (looks_args hk')]; exact hf
    rw [← hwant] at hw
    split at hmm
    · next e => exact absurd e hk
    · next hka =>
      obtain ⟨p, blk, hp, hal, hpr, _⟩ := hmm
      have hkp : p.kind = .alloc := by rw [hp] at hka; exact hka
      obtain ⟨k1, k2, k3, k4, k5⟩ := hr.key x hmem r1 blk hal
      have hrun1 := alloc_like hkp hpr { eHeap L (pre ++ x :: post) h with next := r1 } rfl
      refine oper_at (ops := ops) hcall hc (φ := φ) (h := { eHeap L (pre ++ x :: post) h with next := r1 }) (nx := h.next.toNat) (v := x.v) st.fr st.sim (st.unl x hmem hx r1 blk hal) (fun hn => absurd hp (hn p)) (.inl ⟨hw, args, hfetch, by rw [hp]; exact hrun1⟩) ?_
      intro a' w' φ' s1 e1 f1
      have hnx : (({ eHeap L (pre ++ x :: post) h with next := r1 } : Heap).newB blk).next.toNat = r1.toNat + 1 := by rw [newB_next, Key.toNat_succ]
      have hput : x.put (eHeap L (pre ++ x :: post) h) = (eHeap L (pre ++ x :: post) h).upd r1 (some blk) := by simp only [Ev.put, hal]
      rw [hnx] at s1 e1
      have hget : (({ eHeap L (pre ++ x :: post) h with next := r1 } : Heap).newB blk).get = ((eHeap L (pre ++ x :: post) h).upd r1 (some blk)).get := rfl
      rw [hget] at s1 e1
      refine hK a' w' φ' ⟨by rw [hFr]; exact f1, by rw [hHe, hput]; exact s1 _ (Nat.le_refl _) (by omega), by rw [hHe, hput]; exact st.ext.within e1 k3 (by omega), fun y hy hl k b ha => ?_⟩
      unfold upL at hl
      split at hl
      · cases hl
      · next hyi =>
        have hkk := hkne y hy hyi r1 blk k b hal ha
        have hkk' : r1.toNat ≠ k.toNat := fun e => hkk (by rw [← Key.kn_toNat r1, e, Key.kn_toNat])
        exact e1.only k (st.unl y hy hl k b ha) (by show k.toNat < r1.toNat ∨ r1.toNat + 1 ≤ k.toNat; omega)
    · next hkq =>
      obtain ⟨p, hp, hal, hpr, hout, hsame, _⟩ := hmm
      have hkp : p.kind = .quiet := by rw [hp] at hkq; exact hkq
      have hchk := chk_le hreg hr hu hmem ho hd
      rw [List.drop_append_of_le_length hchk] at hsame
      have hrs : ∃ g, p.run args hs = some (x.v, g) := by
        rcases List.mem_append.1 hm with hm | hm
        · exact sameIn_mem hsame (List.mem_append_right _ hm)
        · simp only [List.mem_singleton] at hm; subst hm; exact ⟨_, hpr⟩
      obtain ⟨g, hrs⟩ := hrs
      obtain ⟨_, hq⟩ := quiet_run hkp hrs
      have hrun1 : p.run args (eHeap L (pre ++ x :: post) h) = some (x.v, eHeap L (pre ++ x :: post) h) := hq _ fun b hb' => by
        have hbo : b.toNat < lo.toNat ∨ hi.toNat ≤ b.toNat := by
          unfold outside at hout
          rw [hb'] at hout
          simp only [Bool.or_eq_true, Nat.blt_eq, Nat.ble_eq] at hout
          exact hout
        rw [hg b hbo]
        refine eHeap_get _ _ fun y hy k b' ha => ?_
        obtain ⟨_, _, e1, e2, _⟩ := hr.key y hy k b' ha
        rintro rfl
        omega
      exact oper_at (ops := ops) hcall hc (φ := φ) (h := eHeap L (pre ++ x :: post) h) (nx := h.next.toNat) (v := x.v) st.fr st.sim hb (fun hn => absurd hp (hn p)) (.inl ⟨hw, args, hfetch, by rw [hp]; exact hrun1⟩) (same hal)
  · rw [← hwant] at hw
    exact oper_at (ops := ops) hcall hc (φ := φ) (h := eHeap L (pre ++ x :: post) h) (nx := h.next.toNat) (v := x.v) st.fr st.sim hb (fun hn => (quiet hal hn).elim) (.inr ⟨hw, hv, rfl⟩) (same hal)
theorem effect_step (hcall : CallOk P call) (hnice : NiceCaller call) (hkeep : KeepCaller call) (hreg : Reg P N ops vs) {L : Nat → Bool} {x : Ev} {l : List Ev} {r : Key} {snaps : List Heap} {fr : Fr} {h : Heap} {fr' : Fr} {h' : Heap}
    (hr : Rest ops vs lo hi (x :: l) snaps h) (hu : Up ops vs (x :: l) L) (hx : L x.i = false) (hk : x.d.o.act.kind = .effect) {o : Oper} (ho : ops[x.i]? = some o) (hd : ∀ k ∈ direct o, L k = true)
    (hrun : Run call lo hi (x :: l) r snaps fr h fr' h') {φ0 : Emb} {g0 : Mem} {w0 : World} {φ : Emb} {a : Act} {w : World} (st : Stand N lo.toNat φ0 g0 w0 L (x :: l) fr h φ a w) :
    ∃ h1, Rest ops vs lo hi l (snaps ++ [h]) h1 ∧ Up ops vs l (upL L x.i) ∧ Run call lo hi l r (snaps ++ [h]) (putV fr x.d.o.dst x.v) h1 fr' h' ∧
      ∀ (K : Act → World → Prop) (Q : Exit → Act → World → Prop), (∀ a' w' φ', Stand N lo.toNat φ0 g0 w0 (upL L x.i) l (putV fr x.d.o.dst x.v) h1 φ' a' w' → K a' w') → wpOp P ops Q x.i K a w := by
  obtain ⟨h1, s, hrun1⟩ := hrun
  have hpw := List.pairwise_cons.1 hr.pw
  have hkpw := List.pairwise_cons.1 hr.kpw
  obtain ⟨vo, hvo, hc⟩ := hreg.ok x.i o ho
  have hix := (hr.idx x (by simp)).1
  rw [hix] at hvo
  cases hvo
  have hop := operands (pre := []) hreg hr hu hx ho hd fr
  simp only [List.nil_append, pFr] at hop
  have hwant := wanted_congr (o := x.d.o) hop
  have hkeys : ∀ y ∈ l, ∀ k b, y.al = some (k, b) → Fresh k h ∧ k.toNat < h.next.toNat ∧ b.anc = [] := fun y hy k b ha => by
    obtain ⟨e1, e2, _, _, e5⟩ := hr.key y (by simp [hy]) k b ha
    exact ⟨e1, e2, e5⟩
  have hgo : ((wantedV (eFr L (x :: l) fr) x.d.o.guard = some true ∧ ∃ args, fetch (eFr L (x :: l) fr) x.d.o.args = some args ∧ x.d.o.act.run call args (eHeap L l h) = some (x.v, eHeap L l h1)) ∨
      (wantedV (eFr L (x :: l) fr) x.d.o.guard = some false ∧ x.v = .unit ∧ eHeap L l h1 = eHeap L l h)) ∧ h.next.toNat ≤ h1.next.toNat ∧ (∀ y ∈ l, ∀ k b, y.al = some (k, b) → Fresh k h1) ∧ Clean h1 := by
    rcases s with ⟨hw, args, hf, hmm⟩ | ⟨hw, hv, hal, rfl⟩
    · simp only [hk] at hmm
      have hn := nice_act hnice x.d.o.act args
      obtain ⟨e1, e2⟩ := nice_early hn L l hmm.2 hkeys hkpw.2
      refine ⟨.inl ⟨by rw [hwant]; exact hw, args, ?_, e1⟩, (hn _ _ _ hmm.2).1, e2, keep_act hkeep hmm.2 hr.clean⟩
      rw [fetch_congr _ fun k hk' => hop k (looks_args hk')]; exact hf
    · exact ⟨.inr ⟨by rw [hwant]; exact hw, hv, rfl⟩, Nat.le_refl _, fun y hy k b ha => (hkeys y hy k b ha).1, hr.clean⟩
  obtain ⟨hgo, hnx, hfresh, hclean⟩ := hgo
  have hne : ∀ y ∈ l, y.i ≠ x.i := fun y hy => Ne.symm (hpw.1 y hy).1
  refine ⟨h1, ⟨fun y hy => hr.idx y (by simp [hy]), hpw.2, ?_, hkpw.2, fun y hy k b ha => ?_, Nat.le_trans hr.hi hnx, hclean⟩, ⟨fun i hi hn => ?_, fun y hy hl => ?_, closed_up hu.closed ho hd⟩, ?_, fun K Q hK => ?_⟩
  · have := filter_le_one (p := fun j => decide (∀ y ∈ l, y.i ≠ j)) (q := fun j => decide (∀ y ∈ x :: l, y.i ≠ j)) (c := x.i) (effIdx vs) (nodup_effIdx vs) fun j _ hp hc => by
      simp only [decide_eq_true_eq] at hp ⊢
      intro y hy
      rcases List.mem_cons.1 hy with rfl | hy
      · exact Ne.symm hc
      · exact hp y hy
    have h2 := hr.snaps
    simp only [List.length_append, List.length_singleton]
    omega
  · obtain ⟨e1, e2, e3, e4, e5⟩ := hr.key y (by simp [hy]) k b ha
    exact ⟨hfresh y hy k b ha, by omega, e3, e4, e5⟩
  · unfold upL
    split
    · rfl
    · next hxi =>
      refine hu.rest i hi fun y hy => ?_
      rcases List.mem_cons.1 hy with rfl | hy
      · exact Ne.symm hxi
      · exact hn y hy
  · unfold upL at hl
    rw [if_neg (hne y hy)] at hl
    exact hu.early y (by simp [hy]) hl
  · simpa [nextKey, nextSnaps, hk] using hrun1
  · unfold wpOp
    simp only [ho]
    have hEh : eHeap L (x :: l) h = eHeap L l h := by simp [eHeap, hx]
    have hEf : eFr L (x :: l) fr = eFr L l fr := by simp [eFr, hx]
    obtain ⟨f0, s0, e0, u0⟩ := st
    rw [hEh] at s0 e0
    have hcl : Clean (eHeap L l h) := clean_eHeap L l h hr.clean fun y hy k b ha => ⟨(hkeys y hy k b ha).2.1, (hkeys y hy k b ha).2.2⟩
    have hnext : (eHeap L l h).next = h.next := eHeap_next L l h
    have hnext1 : (eHeap L l h1).next = h1.next := eHeap_next L l h1
    refine oper_at (ops := ops) hcall hc (φ := φ) (h := eHeap L l h) (h' := eHeap L l h1) (nx := h.next.toNat) (v := x.v) f0 s0 (s0.fresh _ (by rw [hnext]; exact Nat.le_refl _)) (fun _ => ⟨by rw [hnext], hcl⟩) hgo ?_
    intro a' w' φ' s1 e1 f1
    rw [hnext, hnext1] at e1
    rw [hnext1] at s1
    have hc1 : eHeap (upL L x.i) l h1 = eHeap L l h1 := eHeap_congr l h1 fun y hy => by simp [upL, hne y hy]
    have hc2 : ∀ g, eFr (upL L x.i) l g = eFr L l g := fun g => eFr_congr l g fun y hy => by simp [upL, hne y hy]
    refine hK a' w' φ' ⟨?_, by rw [hc1]; exact s1 _ hnx (Nat.le_refl _), by rw [hc1]; exact e0.trans e1, fun y hy hl k b ha => ?_⟩
    · rw [hc2, eFr_put L l fr fun y hy _ k e => hreg.dst x.i y.i _ _ k hix (hr.idx y (by simp [hy])).1 (Ne.symm (hne y hy)) e, ← hEf]
      exact f1
    · unfold upL at hl
      rw [if_neg (hne y hy)] at hl
      exact e1.only k (u0 y (by simp [hy]) hl k b ha) (.inl (hkeys y hy k b ha).2.1)
end
end Go.Vm
end
section
namespace Go.Vm
open Key (kn)
section
variable {P : Program} {call : Caller} {N : Nat} {ops : Array Oper} {vs : List VOper} {lo hi : Key}
theorem any_order (hcall : CallOk P call) (hnice : NiceCaller call) (hkeep : KeepCaller call) (hreg : Reg P N ops vs) {Q : Exit → Act → World → Prop} {φ0 : Emb} {g0 : Mem} {w0 : World} {fr' : Fr} {h' : Heap}
    (hQ : ∀ a w φ, FrRel φ N fr' a → Sim φ h'.get h'.next.toNat w → Ext φ0 g0 lo.toNat w0 φ h'.get h'.next.toNat w → Q .normal a w) :
    ∀ (fuel : Nat) (listed : Array Bool) (evs : List Ev) (r : Key) (snaps : List Heap) (fr : Fr) (h : Heap) (φ : Emb) (a : Act) (w : World), listed.size = ops.size → Rest ops vs lo hi evs snaps h → Up ops vs evs (fun i => listed.getD i true) →
      Run call lo hi evs r snaps fr h fr' h' → Stand N lo.toNat φ0 g0 w0 (fun i => listed.getD i true) evs fr h φ a w → todo (fun i => listed.getD i true) evs ≤ fuel → wpAny P .any ops Q fuel listed a w := by
  have done : ∀ (listed : Array Bool) (evs : List Ev) (r : Key) (snaps : List Heap) (fr : Fr) (h : Heap) (φ : Emb) (a : Act) (w : World), listed.size = ops.size → Rest ops vs lo hi evs snaps h → Up ops vs evs (fun i => listed.getD i true) →
      Run call lo hi evs r snaps fr h fr' h' → Stand N lo.toNat φ0 g0 w0 (fun i => listed.getD i true) evs fr h φ a w → (∀ x l, evs = x :: l → (fun i => listed.getD i true) x.i = false) → Region.ready .any ops listed = [] → Q .normal a w := by
    intro listed evs r snaps fr h φ a w hsz hr hu hrun st hhead hnil
    cases evs with
    | nil =>
      obtain ⟨rfl, rfl⟩ := hrun
      exact hQ a w φ st.fr st.sim st.ext
    | cons x l =>
      exfalso
      have hx := hhead x l rfl
      have hix := (hr.idx x (by simp)).1
      have hlt : x.i < ops.size := by rw [← hreg.len]; exact (List.getElem?_eq_some_iff.1 hix).1
      have ho : ops[x.i]? = some ops[x.i] := by simp [hlt]
      have hmem : x.i ∈ Region.ready .any ops listed := by
        rw [mem_ready]
        refine ⟨hx, _, ho, fun e he hb => ?_⟩
        have hdir := mem_direct he hb
        have hk : e.on < x.i := hreg.down x.i _ (by simp) e.on hdir
        have hl : listed.getD e.on true = true := by
          refine hu.rest e.on (by rw [hreg.len]; omega) fun y hy => ?_
          rcases List.mem_cons.1 hy with rfl | hy
          · omega
          · rintro hyi
            obtain ⟨_, hb', _⟩ := (List.pairwise_cons.1 hr.pw).1 y hy
            have : before (masks ops.toList) y.i x.i = true := (before_iff hreg.down (o := ops[x.i]) (by simp)).2 ⟨e.on, hdir, .inl hyi.symm⟩
            rw [hb'] at this; cases this
        have hlt' : e.on < listed.size := by omega
        simp only [Array.getD, hlt', dif_pos] at hl ⊢
        exact hl
      rw [hnil] at hmem
      cases hmem
  intro fuel
  induction fuel with
  | zero =>
    intro listed evs r snaps fr h φ a w hsz hr hu hrun st hf
    have hnil : Region.ready .any ops listed = [] := by
      refine List.eq_nil_iff_forall_not_mem.2 fun i hi => ?_
      obtain ⟨h1, o, ho, _⟩ := mem_ready.1 hi
      have hlt : i < vs.length := by rw [hreg.len]; exact (Array.getElem?_eq_some_iff.1 ho).1
      have : listed.getD i true = true := hu.rest i hlt fun y hy hyi => by
        have : y ∈ evs.filter fun x => !(fun i => listed.getD i true) x.i := List.mem_filter.2 ⟨hy, by simp only [hyi, h1]; rfl⟩
        have hlen : (evs.filter fun x => !(fun i => listed.getD i true) x.i).length = 0 := Nat.le_zero.1 hf
        rw [List.length_eq_zero_iff.1 hlen] at this
        cases this
      rw [h1] at this; cases this
    obtain ⟨evs', r', fr'', h'', k1, k2, k3, k4, k5, k6⟩ := absorb evs hr hu hrun st
    exact ⟨hnil, done listed evs' r' snaps fr'' h'' φ a w hsz k1 k2 k3 k4 k6 hnil⟩
  | succ fuel ih =>
    intro listed evs r snaps fr h φ a w hsz hr hu hrun st hf
    obtain ⟨evs', r', fr'', h'', k1, k2, k3, k4, k5, k6⟩ := absorb evs hr hu hrun st
    refine ⟨done listed evs' r' snaps fr'' h'' φ a w hsz k1 k2 k3 k4 k6, fun i hi => ?_⟩
    obtain ⟨h1, o, ho, hall⟩ := mem_ready.1 hi
    have hlt : i < ops.size := (Array.getElem?_eq_some_iff.1 ho).1
    have hx : ∃ x ∈ evs', x.i = i := by
      refine Classical.byContradiction fun hn => ?_
      have : listed.getD i true = true := k2.rest i (by rw [hreg.len]; exact hlt) fun y hy hyi => hn ⟨y, hy, hyi⟩
      rw [h1] at this; cases this
    obtain ⟨x, hxm, rfl⟩ := hx
    have hd : ∀ k ∈ direct o, (fun i => listed.getD i true) k = true := fun k hk => by
      obtain ⟨e, he, hb, rfl⟩ := of_mem_direct hk
      have := hall e he hb
      rcases Nat.lt_or_ge e.on listed.size with h' | h'
      · simpa [h'] using this
      · simp [Array.getElem?_eq_none h'] at this
    have hL : (fun i => (listed.setIfInBounds x.i true).getD i true) = upL (fun i => listed.getD i true) x.i := by
      funext j
      unfold upL
      by_cases hj : j = x.i
      · subst hj; simp [hsz, hlt]
      · rw [if_neg hj, getD_set_ne true (Ne.symm hj)]
    have hsz' : (listed.setIfInBounds x.i true).size = ops.size := by simpa using hsz
    have htodo : todo (fun i => listed.getD i true) evs' ≤ fuel + 1 := by rw [k5]; exact hf
    by_cases hk : x.d.o.act.kind = .effect
    · -- an effect: it is the head
      obtain ⟨y, l, rfl⟩ : ∃ y l, evs' = y :: l := by cases evs' with
        | nil => cases hxm
        | cons y l => exact ⟨y, l, rfl⟩
      have hy := k6 y l rfl
      have hxy : x = y := by
        rcases List.mem_cons.1 hxm with rfl | hxl
        · rfl
        · exfalso
          obtain ⟨_, _, h3⟩ := (List.pairwise_cons.1 k1.pw).1 x hxl
          have := k2.closed.ready hreg.down (o := o) (by simpa using ho) hd (h3 hk)
          simp only [hy] at this
          cases this
      subst hxy
      obtain ⟨g1, e1, e2, e3, e4⟩ := effect_step hcall hnice hkeep hreg k1 k2 h1 hk ho hd k3 k4
      refine e4 _ _ fun a' w' φ' st' => ?_
      refine ih _ l _ _ _ g1 φ' a' w' hsz' e1 (by rw [hL]; exact e2) e3 (by rw [hL]; exact st') ?_
      rw [hL]
      have h2 := todo_up (L := fun i => listed.getD i true) h1 (x :: l) (by simp)
      have h3 : todo (upL (fun i => listed.getD i true) x.i) l ≤ todo (upL (fun i => listed.getD i true) x.i) (x :: l) := by
        unfold todo
        rw [List.filter_cons]
        split
        · simp
        · exact Nat.le_refl _
      omega
    · obtain ⟨pre, post, rfl⟩ := List.append_of_mem hxm
      refine early_step hcall hreg k1 k2 h1 hk ho hd k3 k4 fun a' w' φ' st' => ?_
      refine ih _ (pre ++ x :: post) r' snaps fr'' h'' φ' a' w' hsz' k1 (by rw [hL]; exact k2.up k1 hxm hk ho hd) k3 (by rw [hL]; exact st') ?_
      rw [hL]
      have h2 := todo_up (L := fun i => listed.getD i true) h1 (pre ++ x :: post) hxm
      omega
end
theorem nodup_bound : ∀ (n : Nat) (l : List Nat), l.Nodup → (∀ i ∈ l, i < n) → l.length ≤ n
  | 0, l, _, h => by
    cases l with
    | nil => exact Nat.le_refl _
    | cons a l => exact absurd (h a (by simp)) (by omega)
  | n + 1, l, hn, h => by
    have h1 := nodup_bound n (l.erase n) (hn.erase n) fun i hi => by
      have h2 := h i (List.mem_of_mem_erase hi)
      have h3 : i ≠ n := by rintro rfl; exact hn.not_mem_erase hi
      omega
    have h2 : l.length ≤ (l.erase n).length + 1 := by rw [List.length_erase]; split <;> omega
    omega
theorem distinctL_spec : ∀ (vs : List VOper), distinctL vs = true → ∀ (i j : Nat) x y k, vs[i]? = some x → vs[j]? = some y → i < j → x.dst = some k → y.dst ≠ some k
  | [], _, i, j, x, y, k, h, _, _, _ => by simp at h
  | o :: l, hd, i, j, x, y, k, hi, hj, hij, hx => by
    simp only [distinctL, Bool.and_eq_true] at hd
    cases j with
    | zero => omega
    | succ j =>
      simp only [List.getElem?_cons_succ] at hj
      cases i with
      | zero =>
        simp only [List.getElem?_cons_zero, Option.some.injEq] at hi
        subst hi
        have := hd.1
        rw [hx] at this
        have := List.all_eq_true.1 this y (List.mem_of_getElem? hj)
        simpa using this
      | succ i =>
        simp only [List.getElem?_cons_succ] at hi
        exact distinctL_spec l hd.2 i j x y k hi hj (by omega) hx
theorem ordOk_spec {ms : List Nat} {vs : List VOper} : ∀ (is : List Nat), ordOk ms vs is = true → is.Pairwise fun i j => i ≠ j ∧ before ms j i = false ∧ (isEff vs j = true → before ms i j = true)
  | [], _ => .nil
  | i :: l, h => by
    simp only [ordOk, Bool.and_eq_true, Bool.not_eq_true'] at h
    refine .cons (fun j hj => ?_) (ordOk_spec l h.2)
    have := List.all_eq_true.1 h.1.2 j hj
    simp only [Bool.and_eq_true, Bool.not_eq_true', Bool.or_eq_true] at this
    refine ⟨?_, this.1, fun he => ?_⟩
    · rintro rfl
      have := h.1.1
      rw [List.contains_eq_mem] at this
      simp [hj] at this
    · rcases this.2 with h2 | h2
      · rw [he] at h2; cases h2
      · exact h2
theorem dopsOf_spec {ms eff : List Nat} {vs : List VOper} : ∀ (is : List Nat) {ds : List DOp}, dopsOf ms eff vs is = some ds → is.length = ds.length ∧
    ∀ evs : List Ev, evs.map (·.i) = is → evs.map (·.d) = ds → ∀ x ∈ evs, vs[x.i]? = some x.d.o ∧ x.d.chk = chkOf ms eff x.i
  | [], ds, h => by
    simp only [dopsOf, Option.some.injEq] at h
    subst h
    exact ⟨rfl, fun evs h1 _ x hx => by simp at h1; subst h1; cases hx⟩
  | i :: l, ds, h => by
    unfold dopsOf at h
    split at h
    · next o ho =>
      split at h
      · next r hr =>
        cases h
        obtain ⟨h1, h2⟩ := dopsOf_spec l hr
        refine ⟨by simp [h1], fun evs e1 e2 x hx => ?_⟩
        cases evs with
        | nil => cases hx
        | cons y evs =>
          simp only [List.map_cons, List.cons.injEq] at e1 e2
          rcases List.mem_cons.1 hx with rfl | hx
          · rw [e1.1, e2.1]; exact ⟨ho, rfl⟩
          · exact h2 evs e1.2 e2.2 x hx
      · cases h
    · cases h
theorem cOpers_spec {P : Program} {N : Nat} {ops : Array Oper} : ∀ (l : List Oper) {vs : List VOper}, cOpers P N ops l = some vs → vs.length = l.length ∧ ∀ (i : Nat) o, l[i]? = some o → ∃ vo, vs[i]? = some vo ∧ cOper P N ops o = some vo
  | [], vs, h => by simp only [cOpers, Option.some.injEq] at h; subst h; exact ⟨rfl, by simp⟩
  | o :: l, vs, h => by
    unfold cOpers at h
    split at h
    · next vo hvo =>
      split at h
      · next vl hvl =>
        cases h
        obtain ⟨h1, h2⟩ := cOpers_spec l hvl
        refine ⟨by simp [h1], fun i o' ho' => ?_⟩
        cases i with
        | zero => simp only [List.getElem?_cons_zero, Option.some.injEq] at ho'; subst ho'; exact ⟨vo, rfl, hvo⟩
        | succ i => simpa using h2 i o' (by simpa using ho')
      · cases h
    · cases h
theorem reg_of {P : Program} {N : Nat} {ops : Array Oper} {vs : List VOper} (hv : cOpers P N ops ops.toList = some vs) {ord : List Nat} (hok : drawnOk (masks ops.toList) ops.toList vs ord = true) :
    Reg P N ops vs ∧ (∀ i, i < vs.length → i ∈ ord) ∧ (ord.Pairwise fun i j => i ≠ j ∧ before (masks ops.toList) j i = false ∧ (isEff vs j = true → before (masks ops.toList) i j = true)) := by
  obtain ⟨h1, h2⟩ := cOpers_spec _ hv
  unfold drawnOk at hok
  simp only [Bool.and_eq_true] at hok
  obtain ⟨⟨⟨⟨⟨d1, d2⟩, d3⟩, _⟩, d5⟩, d6⟩ := hok
  refine ⟨⟨by simpa using h1, fun i o ho => h2 i o (by simpa using ho), fun j o ho k hk => ?_, fun i j x y k hi hj hne hx => ?_, fun i j x y hi hj hne => ?_⟩, fun i hi => ?_, ordOk_spec ord d6⟩
  · have hlt : j < ops.toList.length := (List.getElem?_eq_some_iff.1 ho).1
    have := List.all_eq_true.1 d2 j (List.mem_range.2 hlt)
    simp only [ho] at this
    have := List.all_eq_true.1 this k hk
    simpa using this
  · rcases Nat.lt_or_gt_of_ne hne with hlt | hlt
    · exact distinctL_spec vs d1 i j x y k hi hj hlt hx
    · intro hy
      exact distinctL_spec vs d1 j i y x k hj hi hlt hy hx
  · have li : i < vs.length := (List.getElem?_eq_some_iff.1 hi).1
    have lj : j < vs.length := (List.getElem?_eq_some_iff.1 hj).1
    have key : ∀ (i j : Nat) x y, vs[i]? = some x → vs[j]? = some y → i < j → before (masks ops.toList) i j = true ∨ before (masks ops.toList) j i = true ∨ apartV x y = true := by
      intro i j x y hi hj hlt
      have li : i < vs.length := (List.getElem?_eq_some_iff.1 hi).1
      have lj : j < vs.length := (List.getElem?_eq_some_iff.1 hj).1
      have := List.all_eq_true.1 (List.all_eq_true.1 d3 i (List.mem_range.2 li)) j (List.mem_range.2 lj)
      simp only [Bool.or_eq_true, Nat.ble_eq, pairOk, hi, hj] at this
      rcases this with h | (h | h) | h
      · omega
      · exact .inl h
      · exact .inr (.inl h)
      · exact .inr (.inr h)
    rcases Nat.lt_or_gt_of_ne hne with hlt | hlt
    · exact key i j x y hi hj hlt
    · rcases key j i y x hj hi hlt with h | h | h
      · exact .inr (.inl h)
      · exact .inl h
      · refine .inr (.inr ?_)
        unfold apartV at h ⊢
        simp only [Bool.and_eq_true] at h ⊢
        exact ⟨h.2, h.1⟩
  · have := List.all_eq_true.1 d5 i (List.mem_range.2 hi)
    rw [List.contains_eq_mem] at this
    simpa using this
theorem cRegion_drawn {P : Program} {N : Nat} {ops : Array Oper} {ds : List DOp} (h : cRegion P N ops true = some (.drawn ds)) :
    ∃ vs ord, cOpers P N ops ops.toList = some vs ∧ drawnOk (masks ops.toList) ops.toList vs ord = true ∧ dopsOf (masks ops.toList) (effIdx vs) vs ord = some ds := by
  unfold cRegion at h
  split at h
  · next vs hvs =>
    simp only [if_true] at h
    split at h
    · next hok =>
      cases hd : dopsOf (masks ops.toList) (effIdx vs) vs (lateOrder (masks ops.toList) (effIdx vs) vs.length) with
      | none => simp [hd] at h
      | some ds' =>
        simp [hd] at h
        subst h
        exact ⟨vs, _, hvs, hok, hd⟩
    · cases h
  · cases h
theorem drawn_ok {P : Program} (hm : P.follows .mixedOrders = true) {call : Caller} (hcall : CallOk P call) (hnice : NiceCaller call) (hkeep : KeepCaller call) : DrawnOk P call := by
  intro N id ops ds hds φ fr fr' a h h' w hfr s hcl hr
  obtain ⟨vs, ord, hv, hok, hd⟩ := cRegion_drawn hds
  obtain ⟨hreg, hall, hpw⟩ := reg_of hv hok
  obtain ⟨hlen, hspec⟩ := dopsOf_spec ord hd
  obtain ⟨evs, hi, hdd, hrun⟩ := run_of_drawn ord ds _ _ _ _ _ _ hlen hr
  have hidx := hspec evs hi hdd
  obtain ⟨hk1, hk2⟩ := run_keys evs hrun
  rw [hdd] at hk1
  have hsucc := succs_toNat (nAlloc ds) h.next
  have hnone : ∀ x ∈ evs, (Array.replicate ops.size false).getD x.i true = false := fun x hx => by
    have : x.i < vs.length := (List.getElem?_eq_some_iff.1 (hidx x hx).1).1
    rw [hreg.len] at this
    simp [this]
  have hfun : eFr (fun i => (Array.replicate ops.size false).getD i true) evs fr = fr := eFr_none evs fr hnone
  have hhun : eHeap (fun i => (Array.replicate ops.size false).getD i true) evs { h with next := succs h.next (nAlloc ds) } = { h with next := succs h.next (nAlloc ds) } := eHeap_none evs _ hnone
  have hn : ({ h with next := succs h.next (nAlloc ds) } : Heap).next.toNat = h.next.toNat + nAlloc ds := hsucc
  refine wp_region_any hm ?_
  refine any_order (lo := h.next) (hi := succs h.next (nAlloc ds)) (φ0 := φ) (g0 := h.get) (w0 := w) hcall hnice hkeep hreg (fun a' w' φ' f1 s1 e1 => ⟨trivial, φ', s1, e1, f1⟩) ops.size (Array.replicate ops.size false) evs h.next [] fr { h with next := succs h.next (nAlloc ds) } φ a { w with drawn := w.drawn + 1 } (by simp) ?_ ?_ hrun ?_ ?_
  · refine ⟨hidx, ?_, ?_, hk2, fun x hx k b ha => ?_, Nat.le_refl _, clean_next hcl (by omega)⟩
    · rw [← hi, List.pairwise_map] at hpw
      refine List.Pairwise.imp_of_mem (fun {x y} hx hy hxy => ?_) hpw
      refine ⟨hxy.1, hxy.2.1, fun he => hxy.2.2 ?_⟩
      unfold isEff
      rw [(hidx y hy).1]
      simpa using he
    · have : (effIdx vs).filter (fun j => decide (∀ x ∈ evs, x.i ≠ j)) = [] := by
        refine List.filter_eq_nil_iff.2 fun j hj => ?_
        obtain ⟨o, ho, _⟩ := mem_effIdx.1 hj
        have hjm := hall j (List.getElem?_eq_some_iff.1 ho).1
        rw [← hi] at hjm
        obtain ⟨x, hx, rfl⟩ := List.mem_map.1 hjm
        simp only [decide_eq_true_eq]
        exact fun hh => hh x hx rfl
      rw [this]; simp
    · obtain ⟨e1, e2, e3⟩ := hk1 x hx k b ha
      exact ⟨hcl k e1, by rw [hn]; exact e2, e1, by omega, e3⟩
  · refine ⟨fun i hi' hn' => ?_, fun x hx hl => ?_, fun j o ho hl => ?_⟩
    · have hjm := hall i hi'
      rw [← hi] at hjm
      obtain ⟨x, hx, hxi⟩ := List.mem_map.1 hjm
      exact absurd hxi (hn' x hx)
    · have := hnone x hx
      rw [this] at hl; cases hl
    · have hlt : j < ops.size := by simpa using (List.getElem?_eq_some_iff.1 ho).1
      simp [hlt] at hl
  · refine ⟨by rw [hfun]; exact hfr, by rw [hhun]; exact (s.up (by omega)).congr rfl, ?_, fun x hx _ k b ha => s.fresh k (hk1 x hx k b ha).1⟩
    rw [hhun, hn]
    refine ⟨Le.refl φ, fun b hb _ => hb, by omega, Nat.le_refl _, fun r o hr _ => hr, fun b x l h1 h2 h3 _ => ⟨b, x, l, h1, h2, h3, rfl⟩, fun b l h1 h2 _ => (by rw [h1] at h2; cases h2), rfl, rfl⟩
  · unfold todo
    refine Nat.le_trans (List.length_filter_le _ _) ?_
    have h1 : evs.length = ord.length := by rw [← hi]; simp
    have h2 : ord.Nodup := hpw.imp fun h => h.1
    have h3 : ∀ i ∈ ord, i < ops.size := fun i him => by
      rw [← hi] at him
      obtain ⟨x, hx, rfl⟩ := List.mem_map.1 him
      rw [← hreg.len]
      exact (List.getElem?_eq_some_iff.1 (hidx x hx).1).1
    rw [h1]
    exact nodup_bound ops.size ord h2 h3
structure OracleOk (P : Program) (O : Oracle) : Prop where
  call : CallOk P O.caller
  nice : ∀ f g, O f = some g → ∀ args, Nice (g args)
  keep : ∀ f g, O f = some g → ∀ args h v h', g args h = some (v, h') → Clean h → Clean h'
theorem call_all {P : Program} (hm : P.follows .mixedOrders = true) {F : Funcs} (hF : ∀ f vf, F f = some vf → funcsOf P f = some vf) {O : Oracle} (hO : OracleOk P O) : ∀ n, CallOk P (callV F O (exec F O n)) := by
  have hE := keep_exec (F := F) hO.nice hO.keep
  have hKC : ∀ m, KeepCaller (callV F O (exec F O m)) := fun m => keep_callV hO.keep (hE m)
  have hNC : ∀ m, NiceCaller (callV F O (exec F O m)) := fun m => nice_callV hO.nice (nice_exec hO.nice m)
  intro n
  induction n using Nat.strongRecOn with
  | _ n ih => exact call_ok hF (fun m => keep_oper (hKC m)) hE hO.call n fun m hlt => ⟨ih m hlt, drawn_ok hm (ih m hlt) (hNC m) (hKC m)⟩
end Go.Vm
end

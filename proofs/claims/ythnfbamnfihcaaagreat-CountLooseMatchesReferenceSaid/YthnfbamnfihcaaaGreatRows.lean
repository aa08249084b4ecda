/-
  No cell of these rows narrows 'for every input' (looked for: loops, veiled, ifaces, maps, wideKeys, modest, calm, conditions, laid).
  DERIVED. THE GIVEN ROWS OF THIS SEAT. 2 by the template 'for every input the law returns true; each argument reads behind the call as it read before'; 0 by the template 'total and deterministic' (their statements: YthnfbamnfihcaaaGreatTotals.lean).
  GIVEN WITH THE SEED: the statements are not yours to turn. If you find one false, say at which input.
  Laid BY PROGRAM, IN A SANDBOX (cutbox-rows.mjs): the forced cells as the released guide's own fill.sh prints them over the translation 122b277c33651cd4… (all of the seat's roots in one cut). By AI agents, Wed Nov 11 2026. No macro, syntax, notation, axiom, sorry.
-/
import Derived.Test.YthnfbamnfihcaaaGreatChecked
import GoSem.Claim
import GoSem.ClaimJoined
import GoSem.ClaimMapViews
import Derived.JoinedTies
import Derived.KernelRfl
namespace Go.Proofs.YthnfbamnfihcaaaGreat
/- THE CELL 'sum', in the pinned program and in every row, IS THE sha256 OF THE DUMP (.gsa) THAT YthnfbamnfihcaaaGreatProg.lean LOADS. Nothing in Lean hashes anything: it is a label: what it is worth is what the hold of that sum in a sandbox is worth. -/
noncomputable def Tryz.pinned : Pinned := { name := "ythnfbamnfihcaaagreat", sum := "122b277c33651cd41dadb76ecb18b10a4b1a9966caf971c23c9c2821dfe58244", checked := Tryz.checked }
namespace Rows
def none {H : Type} : Left H := { results := [], args := [] }

/-- 'koinelaw12.CountLooseMatchesReference': WHATEVER THE INPUT: true; the input reads as it did. -/
def countLooseMatchesReferenceSpec : ChangeSpec := { name := "countLooseMatchesReference", fn := fun _ => fun
  | [d1, d2, d3, d4] => { results := [.lit (.bool true)], args := [d1, d2, d3, d4] }
  | _ => none }
def countLooseMatchesReferenceRow : OpenClaim := { program := "ythnfbamnfihcaaagreat", sum := "122b277c33651cd41dadb76ecb18b10a4b1a9966caf971c23c9c2821dfe58244", func := "koine/koinelaw12.CountLooseMatchesReference", spec := "countLooseMatchesReference", inPlace := ["slices.overlaps[koine/api.Counted]"], unfollowed := true, recurses := true, plainKeys := false, apart := false }
def CountLooseMatchesReferenceSaid : Prop := countLooseMatchesReferenceRow.holds Tryz.pinned (OpenSpec.ofChange countLooseMatchesReferenceSpec)

/-- ITS FALSE NEIGHBOUR: 'it returns false'. Refute it at one input. -/
def countLooseMatchesReferenceWrong : ChangeSpec := { name := "countLooseMatchesReference", fn := fun _ => fun
  | [d1, d2, d3, d4] => { results := [.lit (.bool false)], args := [d1, d2, d3, d4] }
  | _ => none }
def CountLooseMatchesReferenceWrongFalsely : Prop := countLooseMatchesReferenceRow.holds Tryz.pinned (OpenSpec.ofChange countLooseMatchesReferenceWrong)

/-- 'koinelaw12.CountLooseRanks': WHATEVER THE INPUT: true; the input reads as it did. -/
def countLooseRanksSpec : ChangeSpec := { name := "countLooseRanks", fn := fun _ => fun
  | [d1, d2, d3] => { results := [.lit (.bool true)], args := [d1, d2, d3] }
  | _ => none }
def countLooseRanksRow : OpenClaim := { program := "ythnfbamnfihcaaagreat", sum := "122b277c33651cd41dadb76ecb18b10a4b1a9966caf971c23c9c2821dfe58244", func := "koine/koinelaw12.CountLooseRanks", spec := "countLooseRanks", inPlace := ["slices.overlaps[koine/api.Counted]"], unfollowed := true, recurses := true, plainKeys := false, apart := false }
def CountLooseRanksSaid : Prop := countLooseRanksRow.holds Tryz.pinned (OpenSpec.ofChange countLooseRanksSpec)

/-- ITS FALSE NEIGHBOUR: 'it returns false'. Refute it at one input. -/
def countLooseRanksWrong : ChangeSpec := { name := "countLooseRanks", fn := fun _ => fun
  | [d1, d2, d3] => { results := [.lit (.bool false)], args := [d1, d2, d3] }
  | _ => none }
def CountLooseRanksWrongFalsely : Prop := countLooseRanksRow.holds Tryz.pinned (OpenSpec.ofChange countLooseRanksWrong)

/- THE SECOND FORM. 'bulk': how many values and letters a reading holds, each counted each time it is reached (what is shared counts as often as it is met; a slice's spare places count too). A statement '..UptoSaid' is the law's where the arguments, and the package variables that the reading takes, are together of bulk at most 1048576: NARROWER than '..Said'. Prove '..Said' where nothing that the law and all that it calls make is longer than what came in: it says more and counts as full. Else prove '..UptoSaid'. A law counts once. -/
mutual
def uptoBulk {H : Type} : DataW H → Nat
  | .lit (.string bytes) => bytes.length + 1
  | .lit _ => 1
  | .nil => 1
  | .ptr d => uptoBulk d + 1
  | .slice elems spare => uptoBulkAll elems + uptoBulkAll spare + 1
  | .agg parts => uptoBulkAll parts + 1
  | .iface _ d => uptoBulk d + 1
  | .map entries => uptoBulkEntries entries + 1
  | .held _ => 1
def uptoBulkAll {H : Type} : List (DataW H) → Nat
  | [] => 0
  | d :: r => uptoBulk d + uptoBulkAll r
def uptoBulkEntries {H : Type} : List (Lit × DataW H) → Nat
  | [] => 0
  | x :: r => uptoBulkEntry x + uptoBulkEntries r
def uptoBulkEntry {H : Type} : Lit × DataW H → Nat
  | (.string bytes, d) => bytes.length + uptoBulk d + 1
  | (_, d) => uptoBulk d + 1
 end
def uptoSmall : (H : Type) → List (DataW H) → Bool := fun _ ds => decide (uptoBulkAll ds ≤ 1048576)
def OpenSpec.upto (s : _root_.Go.ChangeSpec) : _root_.Go.OpenSpec := { _root_.Go.OpenSpec.ofChange s with cond := some uptoSmall }

/-- 'koinelaw12.CountLooseMatchesReference', WHERE WHAT IT READS IS OF BULK AT MOST 1048576: true; the input reads as it did. -/
def countLooseMatchesReferenceUptoRow : OpenClaim := { program := "ythnfbamnfihcaaagreat", sum := "122b277c33651cd41dadb76ecb18b10a4b1a9966caf971c23c9c2821dfe58244", func := "koine/koinelaw12.CountLooseMatchesReference", spec := "countLooseMatchesReference", inPlace := ["slices.overlaps[koine/api.Counted]"], unfollowed := true, recurses := true, plainKeys := false, apart := false, narrowed := true }
def CountLooseMatchesReferenceUptoSaid : Prop := countLooseMatchesReferenceUptoRow.holds Tryz.pinned (OpenSpec.upto countLooseMatchesReferenceSpec)

/-- 'koinelaw12.CountLooseRanks', WHERE WHAT IT READS IS OF BULK AT MOST 1048576: true; the input reads as it did. -/
def countLooseRanksUptoRow : OpenClaim := { program := "ythnfbamnfihcaaagreat", sum := "122b277c33651cd41dadb76ecb18b10a4b1a9966caf971c23c9c2821dfe58244", func := "koine/koinelaw12.CountLooseRanks", spec := "countLooseRanks", inPlace := ["slices.overlaps[koine/api.Counted]"], unfollowed := true, recurses := true, plainKeys := false, apart := false, narrowed := true }
def CountLooseRanksUptoSaid : Prop := countLooseRanksUptoRow.holds Tryz.pinned (OpenSpec.upto countLooseRanksSpec)

end Rows
end Go.Proofs.YthnfbamnfihcaaaGreat

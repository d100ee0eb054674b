/-
  No cell of these rows narrows 'for every input' (looked for: loops, veiled, ifaces, maps, wideKeys, modest, calm, conditions, laid).
  DERIVED. THE GIVEN ROWS OF THIS SEAT. 4 by the template 'for every input the law returns true; each argument reads behind the call as it read before'; 0 by the template 'total and deterministic' (their statements: YtheciiemknmnoaaGreatTotals.lean).
  GIVEN WITH THE SEED: the statements are not yours to turn. If you find one false, say at which input.
  Laid BY PROGRAM, IN A SANDBOX (cutbox-rows.mjs): the forced cells as the released guide's own fill.sh prints them over the translation bd1017dcdc6aac91… (all of the seat's roots in one cut). By AI agents, Wed Nov 11 2026. No macro, syntax, notation, axiom, sorry.
-/
import Derived.Test.YtheciiemknmnoaaGreatChecked
import GoSem.Claim
import GoSem.ClaimJoined
import GoSem.ClaimMapViews
import Derived.JoinedTies
import Derived.KernelRfl
namespace Go.Proofs.YtheciiemknmnoaaGreat
/- THE CELL 'sum', in the pinned program and in every row, IS THE sha256 OF THE DUMP (.gsa) THAT YtheciiemknmnoaaGreatProg.lean LOADS. Nothing in Lean hashes anything: it is a label: what it is worth is what the hold of that sum in a sandbox is worth. -/
noncomputable def Tryz.pinned : Pinned := { name := "ytheciiemknmnoaagreat", sum := "bd1017dcdc6aac919cebddd4d4f9053429041f392ab79316a5ff2f31e0219c1e", checked := Tryz.checked }
namespace Rows
def none {H : Type} : Left H := { results := [], args := [] }

/-- 'steelyardlaw20.ValueTells': WHATEVER THE INPUT: true; the input reads as it did. -/
def valueTellsSpec : ChangeSpec := { name := "valueTells", fn := fun _ => fun
  | [d1, d2, d3] => { results := [.lit (.bool true)], args := [d1, d2, d3] }
  | _ => none }
def valueTellsRow : OpenClaim := { program := "ytheciiemknmnoaagreat", sum := "bd1017dcdc6aac919cebddd4d4f9053429041f392ab79316a5ff2f31e0219c1e", func := "steelyard/steelyardlaw20.ValueTells", spec := "valueTells", inPlace := ["sync/atomic.AddInt64", "sync/atomic.LoadInt64"], unfollowed := true, recurses := true, apart := false }
def ValueTellsSaid : Prop := valueTellsRow.holds Tryz.pinned (OpenSpec.ofChange valueTellsSpec)

/-- ITS FALSE NEIGHBOUR: 'it returns false'. Refute it at one input. -/
def valueTellsWrong : ChangeSpec := { name := "valueTells", fn := fun _ => fun
  | [d1, d2, d3] => { results := [.lit (.bool false)], args := [d1, d2, d3] }
  | _ => none }
def ValueTellsWrongFalsely : Prop := valueTellsRow.holds Tryz.pinned (OpenSpec.ofChange valueTellsWrong)

/-- 'steelyardlaw20.ValueNeeds': WHATEVER THE INPUT: true; the input reads as it did. -/
def valueNeedsSpec : ChangeSpec := { name := "valueNeeds", fn := fun _ => fun
  | [d1, d2, d3] => { results := [.lit (.bool true)], args := [d1, d2, d3] }
  | _ => none }
def valueNeedsRow : OpenClaim := { program := "ytheciiemknmnoaagreat", sum := "bd1017dcdc6aac919cebddd4d4f9053429041f392ab79316a5ff2f31e0219c1e", func := "steelyard/steelyardlaw20.ValueNeeds", spec := "valueNeeds", inPlace := ["sync/atomic.AddInt64", "sync/atomic.LoadInt64"], unfollowed := true, recurses := true, apart := false }
def ValueNeedsSaid : Prop := valueNeedsRow.holds Tryz.pinned (OpenSpec.ofChange valueNeedsSpec)

/-- ITS FALSE NEIGHBOUR: 'it returns false'. Refute it at one input. -/
def valueNeedsWrong : ChangeSpec := { name := "valueNeeds", fn := fun _ => fun
  | [d1, d2, d3] => { results := [.lit (.bool false)], args := [d1, d2, d3] }
  | _ => none }
def ValueNeedsWrongFalsely : Prop := valueNeedsRow.holds Tryz.pinned (OpenSpec.ofChange valueNeedsWrong)

/-- 'steelyardlaw20.ValueDivisors': WHATEVER THE INPUT: true; the input reads as it did. -/
def valueDivisorsSpec : ChangeSpec := { name := "valueDivisors", fn := fun _ => fun
  | [d1, d2, d3] => { results := [.lit (.bool true)], args := [d1, d2, d3] }
  | _ => none }
def valueDivisorsRow : OpenClaim := { program := "ytheciiemknmnoaagreat", sum := "bd1017dcdc6aac919cebddd4d4f9053429041f392ab79316a5ff2f31e0219c1e", func := "steelyard/steelyardlaw20.ValueDivisors", spec := "valueDivisors", inPlace := ["sync/atomic.AddInt64", "sync/atomic.LoadInt64"], unfollowed := true, recurses := true, apart := false }
def ValueDivisorsSaid : Prop := valueDivisorsRow.holds Tryz.pinned (OpenSpec.ofChange valueDivisorsSpec)

/-- ITS FALSE NEIGHBOUR: 'it returns false'. Refute it at one input. -/
def valueDivisorsWrong : ChangeSpec := { name := "valueDivisors", fn := fun _ => fun
  | [d1, d2, d3] => { results := [.lit (.bool false)], args := [d1, d2, d3] }
  | _ => none }
def ValueDivisorsWrongFalsely : Prop := valueDivisorsRow.holds Tryz.pinned (OpenSpec.ofChange valueDivisorsWrong)

/-- 'steelyardlaw20.ValueZero': WHATEVER THE INPUT: true; the input reads as it did. -/
def valueZeroSpec : ChangeSpec := { name := "valueZero", fn := fun _ => fun
  | [d1, d2] => { results := [.lit (.bool true)], args := [d1, d2] }
  | _ => none }
def valueZeroRow : OpenClaim := { program := "ytheciiemknmnoaagreat", sum := "bd1017dcdc6aac919cebddd4d4f9053429041f392ab79316a5ff2f31e0219c1e", func := "steelyard/steelyardlaw20.ValueZero", spec := "valueZero", inPlace := ["sync/atomic.AddInt64", "sync/atomic.LoadInt64"], unfollowed := true, recurses := true, apart := false }
def ValueZeroSaid : Prop := valueZeroRow.holds Tryz.pinned (OpenSpec.ofChange valueZeroSpec)

/-- ITS FALSE NEIGHBOUR: 'it returns false'. Refute it at one input. -/
def valueZeroWrong : ChangeSpec := { name := "valueZero", fn := fun _ => fun
  | [d1, d2] => { results := [.lit (.bool false)], args := [d1, d2] }
  | _ => none }
def ValueZeroWrongFalsely : Prop := valueZeroRow.holds Tryz.pinned (OpenSpec.ofChange valueZeroWrong)

/- THE SECOND FORM. 'bulk': how many values and letters a reading holds, each counted each time it is reached (what is shared counts as often as it is met; a slice's spare places count too). A statement '..UptoSaid' is the law's where the arguments, and the package variables that the reading takes, are together of bulk at most 1048576: NARROWER than '..Said'. Prove '..Said' where nothing that the law and all that it calls make is longer than what came in: it says more and counts as full. Else prove '..UptoSaid'. A law counts once. -/
mutual
def uptoBulk {H : Type} : DataW H → Nat
  | .lit (.string bytes) => bytes.length + 1
  | .lit _ => 1
  | .nil => 1
  | .ptr d => uptoBulk d + 1
  | .slice elems spare => uptoBulkAll elems + uptoBulkAll spare + 1
  | .agg parts => uptoBulkAll parts + 1
  | .iface _ d => uptoBulk d + 1
  | .map entries => uptoBulkEntries entries + 1
  | .held _ => 1
def uptoBulkAll {H : Type} : List (DataW H) → Nat
  | [] => 0
  | d :: r => uptoBulk d + uptoBulkAll r
def uptoBulkEntries {H : Type} : List (Lit × DataW H) → Nat
  | [] => 0
  | x :: r => uptoBulkEntry x + uptoBulkEntries r
def uptoBulkEntry {H : Type} : Lit × DataW H → Nat
  | (.string bytes, d) => bytes.length + uptoBulk d + 1
  | (_, d) => uptoBulk d + 1
 end
def uptoSmall : (H : Type) → List (DataW H) → Bool := fun _ ds => decide (uptoBulkAll ds ≤ 1048576)
def OpenSpec.upto (s : _root_.Go.ChangeSpec) : _root_.Go.OpenSpec := { _root_.Go.OpenSpec.ofChange s with cond := some uptoSmall }

/-- 'steelyardlaw20.ValueTells', WHERE WHAT IT READS IS OF BULK AT MOST 1048576: true; the input reads as it did. -/
def valueTellsUptoRow : OpenClaim := { program := "ytheciiemknmnoaagreat", sum := "bd1017dcdc6aac919cebddd4d4f9053429041f392ab79316a5ff2f31e0219c1e", func := "steelyard/steelyardlaw20.ValueTells", spec := "valueTells", inPlace := ["sync/atomic.AddInt64", "sync/atomic.LoadInt64"], unfollowed := true, recurses := true, apart := false, narrowed := true }
def ValueTellsUptoSaid : Prop := valueTellsUptoRow.holds Tryz.pinned (OpenSpec.upto valueTellsSpec)

/-- 'steelyardlaw20.ValueNeeds', WHERE WHAT IT READS IS OF BULK AT MOST 1048576: true; the input reads as it did. -/
def valueNeedsUptoRow : OpenClaim := { program := "ytheciiemknmnoaagreat", sum := "bd1017dcdc6aac919cebddd4d4f9053429041f392ab79316a5ff2f31e0219c1e", func := "steelyard/steelyardlaw20.ValueNeeds", spec := "valueNeeds", inPlace := ["sync/atomic.AddInt64", "sync/atomic.LoadInt64"], unfollowed := true, recurses := true, apart := false, narrowed := true }
def ValueNeedsUptoSaid : Prop := valueNeedsUptoRow.holds Tryz.pinned (OpenSpec.upto valueNeedsSpec)

/-- 'steelyardlaw20.ValueDivisors', WHERE WHAT IT READS IS OF BULK AT MOST 1048576: true; the input reads as it did. -/
def valueDivisorsUptoRow : OpenClaim := { program := "ytheciiemknmnoaagreat", sum := "bd1017dcdc6aac919cebddd4d4f9053429041f392ab79316a5ff2f31e0219c1e", func := "steelyard/steelyardlaw20.ValueDivisors", spec := "valueDivisors", inPlace := ["sync/atomic.AddInt64", "sync/atomic.LoadInt64"], unfollowed := true, recurses := true, apart := false, narrowed := true }
def ValueDivisorsUptoSaid : Prop := valueDivisorsUptoRow.holds Tryz.pinned (OpenSpec.upto valueDivisorsSpec)

/-- 'steelyardlaw20.ValueZero', WHERE WHAT IT READS IS OF BULK AT MOST 1048576: true; the input reads as it did. -/
def valueZeroUptoRow : OpenClaim := { program := "ytheciiemknmnoaagreat", sum := "bd1017dcdc6aac919cebddd4d4f9053429041f392ab79316a5ff2f31e0219c1e", func := "steelyard/steelyardlaw20.ValueZero", spec := "valueZero", inPlace := ["sync/atomic.AddInt64", "sync/atomic.LoadInt64"], unfollowed := true, recurses := true, apart := false, narrowed := true }
def ValueZeroUptoSaid : Prop := valueZeroUptoRow.holds Tryz.pinned (OpenSpec.upto valueZeroSpec)

end Rows
end Go.Proofs.YtheciiemknmnoaaGreat

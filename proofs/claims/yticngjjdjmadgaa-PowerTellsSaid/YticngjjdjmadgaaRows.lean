/-
  No cell of these rows narrows 'for every input' (looked for: loops, veiled, ifaces, maps, wideKeys, modest, calm, conditions, laid).
  DERIVED. THE GIVEN ROWS OF THIS SEAT. 11 by the template 'for every input the law returns true; each argument reads behind the call as it read before'; 0 by the template 'total and deterministic' (their statements: YticngjjdjmadgaaTotals.lean).
  GIVEN WITH THE SEED: the statements are not yours to turn. If you find one false, say at which input.
  Laid BY PROGRAM, IN A SANDBOX (cutbox-rows.mjs): the forced cells as the released guide's own fill.sh prints them over the translation 3ea10e188735085c… (all of the seat's roots in one cut). By AI agents, Wed Nov 11 2026. No macro, syntax, notation, axiom, sorry.
-/
import Derived.Test.YticngjjdjmadgaaChecked
import GoSem.Claim
import GoSem.ClaimJoined
import GoSem.ClaimMapViews
import Derived.JoinedTies
import Derived.KernelRfl
namespace Go.Proofs.Yticngjjdjmadgaa
/- THE CELL 'sum', in the pinned program and in every row, IS THE sha256 OF THE DUMP (.gsa) THAT YticngjjdjmadgaaProg.lean LOADS. Nothing in Lean hashes anything: it is a label: what it is worth is what the hold of that sum in a sandbox is worth. -/
noncomputable def Try.pinned : Pinned := { name := "yticngjjdjmadgaa", sum := "3ea10e188735085c5d06647f063269eada6b9a9bbedce59f9ff74d83271e2987", checked := Try.checked }
namespace Rows
def none {H : Type} : Left H := { results := [], args := [] }

/-- 'steelyardlaw08.PowerTells': WHATEVER THE INPUT: true; the input reads as it did. -/
def powerTellsSpec : ChangeSpec := { name := "powerTells", fn := fun _ => fun
  | [d1, d2, d3] => { results := [.lit (.bool true)], args := [d1, d2, d3] }
  | _ => none }
def powerTellsRow : OpenClaim := { program := "yticngjjdjmadgaa", sum := "3ea10e188735085c5d06647f063269eada6b9a9bbedce59f9ff74d83271e2987", func := "steelyard/steelyardlaw08.PowerTells", spec := "powerTells", recurses := true, apart := false }
def PowerTellsSaid : Prop := powerTellsRow.holds Try.pinned (OpenSpec.ofChange powerTellsSpec)

/-- ITS FALSE NEIGHBOUR: 'it returns false'. Refute it at one input. -/
def powerTellsWrong : ChangeSpec := { name := "powerTells", fn := fun _ => fun
  | [d1, d2, d3] => { results := [.lit (.bool false)], args := [d1, d2, d3] }
  | _ => none }
def PowerTellsWrongFalsely : Prop := powerTellsRow.holds Try.pinned (OpenSpec.ofChange powerTellsWrong)

/-- 'steelyardlaw08.PowerTens': WHATEVER THE INPUT: true; the input reads as it did. -/
def powerTensSpec : ChangeSpec := { name := "powerTens", fn := fun _ => fun
  | [d1, d2, d3] => { results := [.lit (.bool true)], args := [d1, d2, d3] }
  | _ => none }
def powerTensRow : OpenClaim := { program := "yticngjjdjmadgaa", sum := "3ea10e188735085c5d06647f063269eada6b9a9bbedce59f9ff74d83271e2987", func := "steelyard/steelyardlaw08.PowerTens", spec := "powerTens", recurses := true, apart := false }
def PowerTensSaid : Prop := powerTensRow.holds Try.pinned (OpenSpec.ofChange powerTensSpec)

/-- ITS FALSE NEIGHBOUR: 'it returns false'. Refute it at one input. -/
def powerTensWrong : ChangeSpec := { name := "powerTens", fn := fun _ => fun
  | [d1, d2, d3] => { results := [.lit (.bool false)], args := [d1, d2, d3] }
  | _ => none }
def PowerTensWrongFalsely : Prop := powerTensRow.holds Try.pinned (OpenSpec.ofChange powerTensWrong)

/-- 'steelyardlaw07.RatMakes': WHATEVER THE INPUT: true; the input reads as it did. -/
def ratMakesSpec : ChangeSpec := { name := "ratMakes", fn := fun _ => fun
  | [d1, d2, d3] => { results := [.lit (.bool true)], args := [d1, d2, d3] }
  | _ => none }
def ratMakesRow : OpenClaim := { program := "yticngjjdjmadgaa", sum := "3ea10e188735085c5d06647f063269eada6b9a9bbedce59f9ff74d83271e2987", func := "steelyard/steelyardlaw07.RatMakes", spec := "ratMakes", apart := false }
def RatMakesSaid : Prop := ratMakesRow.holds Try.pinned (OpenSpec.ofChange ratMakesSpec)

/-- ITS FALSE NEIGHBOUR: 'it returns false'. Refute it at one input. -/
def ratMakesWrong : ChangeSpec := { name := "ratMakes", fn := fun _ => fun
  | [d1, d2, d3] => { results := [.lit (.bool false)], args := [d1, d2, d3] }
  | _ => none }
def RatMakesWrongFalsely : Prop := ratMakesRow.holds Try.pinned (OpenSpec.ofChange ratMakesWrong)

/-- 'steelyardlaw07.RatBetween': WHATEVER THE INPUT: true; the input reads as it did. -/
def ratBetweenSpec : ChangeSpec := { name := "ratBetween", fn := fun _ => fun
  | [d1, d2] => { results := [.lit (.bool true)], args := [d1, d2] }
  | _ => none }
def ratBetweenRow : OpenClaim := { program := "yticngjjdjmadgaa", sum := "3ea10e188735085c5d06647f063269eada6b9a9bbedce59f9ff74d83271e2987", func := "steelyard/steelyardlaw07.RatBetween", spec := "ratBetween", apart := false }
def RatBetweenSaid : Prop := ratBetweenRow.holds Try.pinned (OpenSpec.ofChange ratBetweenSpec)

/-- ITS FALSE NEIGHBOUR: 'it returns false'. Refute it at one input. -/
def ratBetweenWrong : ChangeSpec := { name := "ratBetween", fn := fun _ => fun
  | [d1, d2] => { results := [.lit (.bool false)], args := [d1, d2] }
  | _ => none }
def RatBetweenWrongFalsely : Prop := ratBetweenRow.holds Try.pinned (OpenSpec.ofChange ratBetweenWrong)

/-- 'steelyardlaw07.RatPlain': WHATEVER THE INPUT: true; the input reads as it did. -/
def ratPlainSpec : ChangeSpec := { name := "ratPlain", fn := fun _ => fun
  | [d1, d2] => { results := [.lit (.bool true)], args := [d1, d2] }
  | _ => none }
def ratPlainRow : OpenClaim := { program := "yticngjjdjmadgaa", sum := "3ea10e188735085c5d06647f063269eada6b9a9bbedce59f9ff74d83271e2987", func := "steelyard/steelyardlaw07.RatPlain", spec := "ratPlain", apart := false }
def RatPlainSaid : Prop := ratPlainRow.holds Try.pinned (OpenSpec.ofChange ratPlainSpec)

/-- ITS FALSE NEIGHBOUR: 'it returns false'. Refute it at one input. -/
def ratPlainWrong : ChangeSpec := { name := "ratPlain", fn := fun _ => fun
  | [d1, d2] => { results := [.lit (.bool false)], args := [d1, d2] }
  | _ => none }
def RatPlainWrongFalsely : Prop := ratPlainRow.holds Try.pinned (OpenSpec.ofChange ratPlainWrong)

/-- 'steelyardlaw07.RatTells': WHATEVER THE INPUT: true; the input reads as it did. -/
def ratTellsSpec : ChangeSpec := { name := "ratTells", fn := fun _ => fun
  | [d1, d2, d3] => { results := [.lit (.bool true)], args := [d1, d2, d3] }
  | _ => none }
def ratTellsRow : OpenClaim := { program := "yticngjjdjmadgaa", sum := "3ea10e188735085c5d06647f063269eada6b9a9bbedce59f9ff74d83271e2987", func := "steelyard/steelyardlaw07.RatTells", spec := "ratTells", apart := false }
def RatTellsSaid : Prop := ratTellsRow.holds Try.pinned (OpenSpec.ofChange ratTellsSpec)

/-- ITS FALSE NEIGHBOUR: 'it returns false'. Refute it at one input. -/
def ratTellsWrong : ChangeSpec := { name := "ratTells", fn := fun _ => fun
  | [d1, d2, d3] => { results := [.lit (.bool false)], args := [d1, d2, d3] }
  | _ => none }
def RatTellsWrongFalsely : Prop := ratTellsRow.holds Try.pinned (OpenSpec.ofChange ratTellsWrong)

/-- 'steelyardlaw07.RatField': WHATEVER THE INPUT: true; the input reads as it did. -/
def ratFieldSpec : ChangeSpec := { name := "ratField", fn := fun _ => fun
  | [d1, d2, d3] => { results := [.lit (.bool true)], args := [d1, d2, d3] }
  | _ => none }
def ratFieldRow : OpenClaim := { program := "yticngjjdjmadgaa", sum := "3ea10e188735085c5d06647f063269eada6b9a9bbedce59f9ff74d83271e2987", func := "steelyard/steelyardlaw07.RatField", spec := "ratField", apart := false }
def RatFieldSaid : Prop := ratFieldRow.holds Try.pinned (OpenSpec.ofChange ratFieldSpec)

/-- ITS FALSE NEIGHBOUR: 'it returns false'. Refute it at one input. -/
def ratFieldWrong : ChangeSpec := { name := "ratField", fn := fun _ => fun
  | [d1, d2, d3] => { results := [.lit (.bool false)], args := [d1, d2, d3] }
  | _ => none }
def RatFieldWrongFalsely : Prop := ratFieldRow.holds Try.pinned (OpenSpec.ofChange ratFieldWrong)

/-- 'steelyardlaw07.RatOrder': WHATEVER THE INPUT: true; the input reads as it did. -/
def ratOrderSpec : ChangeSpec := { name := "ratOrder", fn := fun _ => fun
  | [d1, d2, d3] => { results := [.lit (.bool true)], args := [d1, d2, d3] }
  | _ => none }
def ratOrderRow : OpenClaim := { program := "yticngjjdjmadgaa", sum := "3ea10e188735085c5d06647f063269eada6b9a9bbedce59f9ff74d83271e2987", func := "steelyard/steelyardlaw07.RatOrder", spec := "ratOrder", apart := false }
def RatOrderSaid : Prop := ratOrderRow.holds Try.pinned (OpenSpec.ofChange ratOrderSpec)

/-- ITS FALSE NEIGHBOUR: 'it returns false'. Refute it at one input. -/
def ratOrderWrong : ChangeSpec := { name := "ratOrder", fn := fun _ => fun
  | [d1, d2, d3] => { results := [.lit (.bool false)], args := [d1, d2, d3] }
  | _ => none }
def RatOrderWrongFalsely : Prop := ratOrderRow.holds Try.pinned (OpenSpec.ofChange ratOrderWrong)

/-- 'steelyardlaw08.PowerSums': WHATEVER THE INPUT: true; the input reads as it did. -/
def powerSumsSpec : ChangeSpec := { name := "powerSums", fn := fun _ => fun
  | [d1, d2, d3] => { results := [.lit (.bool true)], args := [d1, d2, d3] }
  | _ => none }
def powerSumsRow : OpenClaim := { program := "yticngjjdjmadgaa", sum := "3ea10e188735085c5d06647f063269eada6b9a9bbedce59f9ff74d83271e2987", func := "steelyard/steelyardlaw08.PowerSums", spec := "powerSums", recurses := true, apart := false }
def PowerSumsSaid : Prop := powerSumsRow.holds Try.pinned (OpenSpec.ofChange powerSumsSpec)

/-- ITS FALSE NEIGHBOUR: 'it returns false'. Refute it at one input. -/
def powerSumsWrong : ChangeSpec := { name := "powerSums", fn := fun _ => fun
  | [d1, d2, d3] => { results := [.lit (.bool false)], args := [d1, d2, d3] }
  | _ => none }
def PowerSumsWrongFalsely : Prop := powerSumsRow.holds Try.pinned (OpenSpec.ofChange powerSumsWrong)

/-- 'steelyardlaw08.PowerSigns': WHATEVER THE INPUT: true; the input reads as it did. -/
def powerSignsSpec : ChangeSpec := { name := "powerSigns", fn := fun _ => fun
  | [d1, d2] => { results := [.lit (.bool true)], args := [d1, d2] }
  | _ => none }
def powerSignsRow : OpenClaim := { program := "yticngjjdjmadgaa", sum := "3ea10e188735085c5d06647f063269eada6b9a9bbedce59f9ff74d83271e2987", func := "steelyard/steelyardlaw08.PowerSigns", spec := "powerSigns", recurses := true, apart := false }
def PowerSignsSaid : Prop := powerSignsRow.holds Try.pinned (OpenSpec.ofChange powerSignsSpec)

/-- ITS FALSE NEIGHBOUR: 'it returns false'. Refute it at one input. -/
def powerSignsWrong : ChangeSpec := { name := "powerSigns", fn := fun _ => fun
  | [d1, d2] => { results := [.lit (.bool false)], args := [d1, d2] }
  | _ => none }
def PowerSignsWrongFalsely : Prop := powerSignsRow.holds Try.pinned (OpenSpec.ofChange powerSignsWrong)

/-- 'steelyardlaw08.PowerOrder': WHATEVER THE INPUT: true; the input reads as it did. -/
def powerOrderSpec : ChangeSpec := { name := "powerOrder", fn := fun _ => fun
  | [d1, d2, d3] => { results := [.lit (.bool true)], args := [d1, d2, d3] }
  | _ => none }
def powerOrderRow : OpenClaim := { program := "yticngjjdjmadgaa", sum := "3ea10e188735085c5d06647f063269eada6b9a9bbedce59f9ff74d83271e2987", func := "steelyard/steelyardlaw08.PowerOrder", spec := "powerOrder", recurses := true, apart := false }
def PowerOrderSaid : Prop := powerOrderRow.holds Try.pinned (OpenSpec.ofChange powerOrderSpec)

/-- ITS FALSE NEIGHBOUR: 'it returns false'. Refute it at one input. -/
def powerOrderWrong : ChangeSpec := { name := "powerOrder", fn := fun _ => fun
  | [d1, d2, d3] => { results := [.lit (.bool false)], args := [d1, d2, d3] }
  | _ => none }
def PowerOrderWrongFalsely : Prop := powerOrderRow.holds Try.pinned (OpenSpec.ofChange powerOrderWrong)

/- THE SECOND FORM. 'bulk': how many values and letters a reading holds, each counted each time it is reached (what is shared counts as often as it is met; a slice's spare places count too). A statement '..UptoSaid' is the law's where the arguments, and the package variables that the reading takes, are together of bulk at most 1048576: NARROWER than '..Said'. Prove '..Said' where nothing that the law and all that it calls make is longer than what came in: it says more and counts as full. Else prove '..UptoSaid'. A law counts once. -/
mutual
def uptoBulk {H : Type} : DataW H → Nat
  | .lit (.string bytes) => bytes.length + 1
  | .lit _ => 1
  | .nil => 1
  | .ptr d => uptoBulk d + 1
  | .slice elems spare => uptoBulkAll elems + uptoBulkAll spare + 1
  | .agg parts => uptoBulkAll parts + 1
  | .iface _ d => uptoBulk d + 1
  | .map entries => uptoBulkEntries entries + 1
  | .held _ => 1
def uptoBulkAll {H : Type} : List (DataW H) → Nat
  | [] => 0
  | d :: r => uptoBulk d + uptoBulkAll r
def uptoBulkEntries {H : Type} : List (Lit × DataW H) → Nat
  | [] => 0
  | x :: r => uptoBulkEntry x + uptoBulkEntries r
def uptoBulkEntry {H : Type} : Lit × DataW H → Nat
  | (.string bytes, d) => bytes.length + uptoBulk d + 1
  | (_, d) => uptoBulk d + 1
 end
def uptoSmall : (H : Type) → List (DataW H) → Bool := fun _ ds => decide (uptoBulkAll ds ≤ 1048576)
def OpenSpec.upto (s : _root_.Go.ChangeSpec) : _root_.Go.OpenSpec := { _root_.Go.OpenSpec.ofChange s with cond := some uptoSmall }

/-- 'steelyardlaw08.PowerTells', WHERE WHAT IT READS IS OF BULK AT MOST 1048576: true; the input reads as it did. -/
def powerTellsUptoRow : OpenClaim := { program := "yticngjjdjmadgaa", sum := "3ea10e188735085c5d06647f063269eada6b9a9bbedce59f9ff74d83271e2987", func := "steelyard/steelyardlaw08.PowerTells", spec := "powerTells", recurses := true, apart := false, narrowed := true }
def PowerTellsUptoSaid : Prop := powerTellsUptoRow.holds Try.pinned (OpenSpec.upto powerTellsSpec)

/-- 'steelyardlaw08.PowerTens', WHERE WHAT IT READS IS OF BULK AT MOST 1048576: true; the input reads as it did. -/
def powerTensUptoRow : OpenClaim := { program := "yticngjjdjmadgaa", sum := "3ea10e188735085c5d06647f063269eada6b9a9bbedce59f9ff74d83271e2987", func := "steelyard/steelyardlaw08.PowerTens", spec := "powerTens", recurses := true, apart := false, narrowed := true }
def PowerTensUptoSaid : Prop := powerTensUptoRow.holds Try.pinned (OpenSpec.upto powerTensSpec)

/-- 'steelyardlaw07.RatMakes', WHERE WHAT IT READS IS OF BULK AT MOST 1048576: true; the input reads as it did. -/
def ratMakesUptoRow : OpenClaim := { program := "yticngjjdjmadgaa", sum := "3ea10e188735085c5d06647f063269eada6b9a9bbedce59f9ff74d83271e2987", func := "steelyard/steelyardlaw07.RatMakes", spec := "ratMakes", apart := false, narrowed := true }
def RatMakesUptoSaid : Prop := ratMakesUptoRow.holds Try.pinned (OpenSpec.upto ratMakesSpec)

/-- 'steelyardlaw07.RatBetween', WHERE WHAT IT READS IS OF BULK AT MOST 1048576: true; the input reads as it did. -/
def ratBetweenUptoRow : OpenClaim := { program := "yticngjjdjmadgaa", sum := "3ea10e188735085c5d06647f063269eada6b9a9bbedce59f9ff74d83271e2987", func := "steelyard/steelyardlaw07.RatBetween", spec := "ratBetween", apart := false, narrowed := true }
def RatBetweenUptoSaid : Prop := ratBetweenUptoRow.holds Try.pinned (OpenSpec.upto ratBetweenSpec)

/-- 'steelyardlaw07.RatPlain', WHERE WHAT IT READS IS OF BULK AT MOST 1048576: true; the input reads as it did. -/
def ratPlainUptoRow : OpenClaim := { program := "yticngjjdjmadgaa", sum := "3ea10e188735085c5d06647f063269eada6b9a9bbedce59f9ff74d83271e2987", func := "steelyard/steelyardlaw07.RatPlain", spec := "ratPlain", apart := false, narrowed := true }
def RatPlainUptoSaid : Prop := ratPlainUptoRow.holds Try.pinned (OpenSpec.upto ratPlainSpec)

/-- 'steelyardlaw07.RatTells', WHERE WHAT IT READS IS OF BULK AT MOST 1048576: true; the input reads as it did. -/
def ratTellsUptoRow : OpenClaim := { program := "yticngjjdjmadgaa", sum := "3ea10e188735085c5d06647f063269eada6b9a9bbedce59f9ff74d83271e2987", func := "steelyard/steelyardlaw07.RatTells", spec := "ratTells", apart := false, narrowed := true }
def RatTellsUptoSaid : Prop := ratTellsUptoRow.holds Try.pinned (OpenSpec.upto ratTellsSpec)

/-- 'steelyardlaw07.RatField', WHERE WHAT IT READS IS OF BULK AT MOST 1048576: true; the input reads as it did. -/
def ratFieldUptoRow : OpenClaim := { program := "yticngjjdjmadgaa", sum := "3ea10e188735085c5d06647f063269eada6b9a9bbedce59f9ff74d83271e2987", func := "steelyard/steelyardlaw07.RatField", spec := "ratField", apart := false, narrowed := true }
def RatFieldUptoSaid : Prop := ratFieldUptoRow.holds Try.pinned (OpenSpec.upto ratFieldSpec)

/-- 'steelyardlaw07.RatOrder', WHERE WHAT IT READS IS OF BULK AT MOST 1048576: true; the input reads as it did. -/
def ratOrderUptoRow : OpenClaim := { program := "yticngjjdjmadgaa", sum := "3ea10e188735085c5d06647f063269eada6b9a9bbedce59f9ff74d83271e2987", func := "steelyard/steelyardlaw07.RatOrder", spec := "ratOrder", apart := false, narrowed := true }
def RatOrderUptoSaid : Prop := ratOrderUptoRow.holds Try.pinned (OpenSpec.upto ratOrderSpec)

/-- 'steelyardlaw08.PowerSums', WHERE WHAT IT READS IS OF BULK AT MOST 1048576: true; the input reads as it did. -/
def powerSumsUptoRow : OpenClaim := { program := "yticngjjdjmadgaa", sum := "3ea10e188735085c5d06647f063269eada6b9a9bbedce59f9ff74d83271e2987", func := "steelyard/steelyardlaw08.PowerSums", spec := "powerSums", recurses := true, apart := false, narrowed := true }
def PowerSumsUptoSaid : Prop := powerSumsUptoRow.holds Try.pinned (OpenSpec.upto powerSumsSpec)

/-- 'steelyardlaw08.PowerSigns', WHERE WHAT IT READS IS OF BULK AT MOST 1048576: true; the input reads as it did. -/
def powerSignsUptoRow : OpenClaim := { program := "yticngjjdjmadgaa", sum := "3ea10e188735085c5d06647f063269eada6b9a9bbedce59f9ff74d83271e2987", func := "steelyard/steelyardlaw08.PowerSigns", spec := "powerSigns", recurses := true, apart := false, narrowed := true }
def PowerSignsUptoSaid : Prop := powerSignsUptoRow.holds Try.pinned (OpenSpec.upto powerSignsSpec)

/-- 'steelyardlaw08.PowerOrder', WHERE WHAT IT READS IS OF BULK AT MOST 1048576: true; the input reads as it did. -/
def powerOrderUptoRow : OpenClaim := { program := "yticngjjdjmadgaa", sum := "3ea10e188735085c5d06647f063269eada6b9a9bbedce59f9ff74d83271e2987", func := "steelyard/steelyardlaw08.PowerOrder", spec := "powerOrder", recurses := true, apart := false, narrowed := true }
def PowerOrderUptoSaid : Prop := powerOrderUptoRow.holds Try.pinned (OpenSpec.upto powerOrderSpec)

end Rows
end Go.Proofs.Yticngjjdjmadgaa

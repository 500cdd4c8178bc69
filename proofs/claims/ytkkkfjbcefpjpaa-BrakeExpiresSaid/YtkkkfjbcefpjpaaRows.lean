/-
  No cell of these rows narrows 'for every input' (looked for: loops, veiled, ifaces, maps, wideKeys, modest, calm, conditions, laid).
  DERIVED. THE GIVEN ROWS OF THIS SEAT. 7 by the template 'for every input the law returns true; each argument reads behind the call as it read before'; 0 by the template 'total and deterministic' (their statements: YtkkkfjbcefpjpaaTotals.lean).
  GIVEN WITH THE SEED: the statements are not yours to turn. If you find one false, say at which input.
  Laid BY PROGRAM, IN A SANDBOX (cutbox-rows.mjs): the forced cells as the released guide's own fill.sh prints them over the translation b1cf89a080bb506f… (all of the seat's roots in one cut). By AI agents, Wed Nov 11 2026. No macro, syntax, notation, axiom, sorry.
-/
import Derived.Test.YtkkkfjbcefpjpaaChecked
import GoSem.Claim
import GoSem.ClaimJoined
import GoSem.ClaimMapViews
import Derived.JoinedTies
import Derived.KernelRfl
namespace Go.Proofs.Ytkkkfjbcefpjpaa
/- THE CELL 'sum', in the pinned program and in every row, IS THE sha256 OF THE DUMP (.gsa) THAT YtkkkfjbcefpjpaaProg.lean LOADS. Nothing in Lean hashes anything: it is a label: what it is worth is what the hold of that sum in a sandbox is worth. -/
noncomputable def Try.pinned : Pinned := { name := "ytkkkfjbcefpjpaa", sum := "b1cf89a080bb506febf94455f23193fa29185a87f5eb134c976e62ecd40d8d74", checked := Try.checked }
namespace Rows
def none {H : Type} : Left H := { results := [], args := [] }

/-- 'skiarealaw15.BrakeRight': WHATEVER THE INPUT: true; the input reads as it did. -/
def brakeRightSpec : ChangeSpec := { name := "brakeRight", fn := fun _ => fun
  | [d] => { results := [.lit (.bool true)], args := [d] }
  | _ => none }
def brakeRightRow : OpenClaim := { program := "ytkkkfjbcefpjpaa", sum := "b1cf89a080bb506febf94455f23193fa29185a87f5eb134c976e62ecd40d8d74", func := "skiarea/skiarealaw15.BrakeRight", spec := "brakeRight", unfollowed := true, recurses := true, apart := false }
def BrakeRightSaid : Prop := brakeRightRow.holds Try.pinned (OpenSpec.ofChange brakeRightSpec)

/-- ITS FALSE NEIGHBOUR: 'it returns false'. Refute it at one input. -/
def brakeRightWrong : ChangeSpec := { name := "brakeRight", fn := fun _ => fun
  | [d] => { results := [.lit (.bool false)], args := [d] }
  | _ => none }
def BrakeRightWrongFalsely : Prop := brakeRightRow.holds Try.pinned (OpenSpec.ofChange brakeRightWrong)

/-- 'skiarealaw15.BrakeTests': WHATEVER THE INPUT: true; the input reads as it did. -/
def brakeTestsSpec : ChangeSpec := { name := "brakeTests", fn := fun _ => fun
  | [d1, d2, d3, d4] => { results := [.lit (.bool true)], args := [d1, d2, d3, d4] }
  | _ => none }
def brakeTestsRow : OpenClaim := { program := "ytkkkfjbcefpjpaa", sum := "b1cf89a080bb506febf94455f23193fa29185a87f5eb134c976e62ecd40d8d74", func := "skiarea/skiarealaw15.BrakeTests", spec := "brakeTests", unfollowed := true, recurses := true, apart := false }
def BrakeTestsSaid : Prop := brakeTestsRow.holds Try.pinned (OpenSpec.ofChange brakeTestsSpec)

/-- ITS FALSE NEIGHBOUR: 'it returns false'. Refute it at one input. -/
def brakeTestsWrong : ChangeSpec := { name := "brakeTests", fn := fun _ => fun
  | [d1, d2, d3, d4] => { results := [.lit (.bool false)], args := [d1, d2, d3, d4] }
  | _ => none }
def BrakeTestsWrongFalsely : Prop := brakeTestsRow.holds Try.pinned (OpenSpec.ofChange brakeTestsWrong)

/-- 'skiarealaw15.BrakeValid': WHATEVER THE INPUT: true; the input reads as it did. -/
def brakeValidSpec : ChangeSpec := { name := "brakeValid", fn := fun _ => fun
  | [d1, d2] => { results := [.lit (.bool true)], args := [d1, d2] }
  | _ => none }
def brakeValidRow : OpenClaim := { program := "ytkkkfjbcefpjpaa", sum := "b1cf89a080bb506febf94455f23193fa29185a87f5eb134c976e62ecd40d8d74", func := "skiarea/skiarealaw15.BrakeValid", spec := "brakeValid", unfollowed := true, recurses := true, apart := false }
def BrakeValidSaid : Prop := brakeValidRow.holds Try.pinned (OpenSpec.ofChange brakeValidSpec)

/-- ITS FALSE NEIGHBOUR: 'it returns false'. Refute it at one input. -/
def brakeValidWrong : ChangeSpec := { name := "brakeValid", fn := fun _ => fun
  | [d1, d2] => { results := [.lit (.bool false)], args := [d1, d2] }
  | _ => none }
def BrakeValidWrongFalsely : Prop := brakeValidRow.holds Try.pinned (OpenSpec.ofChange brakeValidWrong)

/-- 'skiarealaw15.BrakeForces': WHATEVER THE INPUT: true; the input reads as it did. -/
def brakeForcesSpec : ChangeSpec := { name := "brakeForces", fn := fun _ => fun
  | [d1, d2, d3, d4] => { results := [.lit (.bool true)], args := [d1, d2, d3, d4] }
  | _ => none }
def brakeForcesRow : OpenClaim := { program := "ytkkkfjbcefpjpaa", sum := "b1cf89a080bb506febf94455f23193fa29185a87f5eb134c976e62ecd40d8d74", func := "skiarea/skiarealaw15.BrakeForces", spec := "brakeForces", unfollowed := true, recurses := true, apart := false }
def BrakeForcesSaid : Prop := brakeForcesRow.holds Try.pinned (OpenSpec.ofChange brakeForcesSpec)

/-- ITS FALSE NEIGHBOUR: 'it returns false'. Refute it at one input. -/
def brakeForcesWrong : ChangeSpec := { name := "brakeForces", fn := fun _ => fun
  | [d1, d2, d3, d4] => { results := [.lit (.bool false)], args := [d1, d2, d3, d4] }
  | _ => none }
def BrakeForcesWrongFalsely : Prop := brakeForcesRow.holds Try.pinned (OpenSpec.ofChange brakeForcesWrong)

/-- 'skiarealaw15.BrakeDue': WHATEVER THE INPUT: true; the input reads as it did. -/
def brakeDueSpec : ChangeSpec := { name := "brakeDue", fn := fun _ => fun
  | [d1, d2] => { results := [.lit (.bool true)], args := [d1, d2] }
  | _ => none }
def brakeDueRow : OpenClaim := { program := "ytkkkfjbcefpjpaa", sum := "b1cf89a080bb506febf94455f23193fa29185a87f5eb134c976e62ecd40d8d74", func := "skiarea/skiarealaw15.BrakeDue", spec := "brakeDue", unfollowed := true, recurses := true, apart := false }
def BrakeDueSaid : Prop := brakeDueRow.holds Try.pinned (OpenSpec.ofChange brakeDueSpec)

/-- ITS FALSE NEIGHBOUR: 'it returns false'. Refute it at one input. -/
def brakeDueWrong : ChangeSpec := { name := "brakeDue", fn := fun _ => fun
  | [d1, d2] => { results := [.lit (.bool false)], args := [d1, d2] }
  | _ => none }
def BrakeDueWrongFalsely : Prop := brakeDueRow.holds Try.pinned (OpenSpec.ofChange brakeDueWrong)

/-- 'skiarealaw15.BrakeExpires': WHATEVER THE INPUT: true; the input reads as it did. -/
def brakeExpiresSpec : ChangeSpec := { name := "brakeExpires", fn := fun _ => fun
  | [d1, d2] => { results := [.lit (.bool true)], args := [d1, d2] }
  | _ => none }
def brakeExpiresRow : OpenClaim := { program := "ytkkkfjbcefpjpaa", sum := "b1cf89a080bb506febf94455f23193fa29185a87f5eb134c976e62ecd40d8d74", func := "skiarea/skiarealaw15.BrakeExpires", spec := "brakeExpires", unfollowed := true, recurses := true, apart := false }
def BrakeExpiresSaid : Prop := brakeExpiresRow.holds Try.pinned (OpenSpec.ofChange brakeExpiresSpec)

/-- ITS FALSE NEIGHBOUR: 'it returns false'. Refute it at one input. -/
def brakeExpiresWrong : ChangeSpec := { name := "brakeExpires", fn := fun _ => fun
  | [d1, d2] => { results := [.lit (.bool false)], args := [d1, d2] }
  | _ => none }
def BrakeExpiresWrongFalsely : Prop := brakeExpiresRow.holds Try.pinned (OpenSpec.ofChange brakeExpiresWrong)

/-- 'skiarealaw15.BrakeLoads': WHATEVER THE INPUT: true; the input reads as it did. -/
def brakeLoadsSpec : ChangeSpec := { name := "brakeLoads", fn := fun _ => fun
  | [d1, d2, d3, d4] => { results := [.lit (.bool true)], args := [d1, d2, d3, d4] }
  | _ => none }
def brakeLoadsRow : OpenClaim := { program := "ytkkkfjbcefpjpaa", sum := "b1cf89a080bb506febf94455f23193fa29185a87f5eb134c976e62ecd40d8d74", func := "skiarea/skiarealaw15.BrakeLoads", spec := "brakeLoads", unfollowed := true, recurses := true, apart := false }
def BrakeLoadsSaid : Prop := brakeLoadsRow.holds Try.pinned (OpenSpec.ofChange brakeLoadsSpec)

/-- ITS FALSE NEIGHBOUR: 'it returns false'. Refute it at one input. -/
def brakeLoadsWrong : ChangeSpec := { name := "brakeLoads", fn := fun _ => fun
  | [d1, d2, d3, d4] => { results := [.lit (.bool false)], args := [d1, d2, d3, d4] }
  | _ => none }
def BrakeLoadsWrongFalsely : Prop := brakeLoadsRow.holds Try.pinned (OpenSpec.ofChange brakeLoadsWrong)

/- THE SECOND FORM. 'bulk': how many values and letters a reading holds, each counted each time it is reached (what is shared counts as often as it is met; a slice's spare places count too). A statement '..UptoSaid' is the law's where the arguments, and the package variables that the reading takes, are together of bulk at most 1048576: NARROWER than '..Said'. Prove '..Said' where nothing that the law and all that it calls make is longer than what came in: it says more and counts as full. Else prove '..UptoSaid'. A law counts once. -/
mutual
def uptoBulk {H : Type} : DataW H → Nat
  | .lit (.string bytes) => bytes.length + 1
  | .lit _ => 1
  | .nil => 1
  | .ptr d => uptoBulk d + 1
  | .slice elems spare => uptoBulkAll elems + uptoBulkAll spare + 1
  | .agg parts => uptoBulkAll parts + 1
  | .iface _ d => uptoBulk d + 1
  | .map entries => uptoBulkEntries entries + 1
  | .held _ => 1
def uptoBulkAll {H : Type} : List (DataW H) → Nat
  | [] => 0
  | d :: r => uptoBulk d + uptoBulkAll r
def uptoBulkEntries {H : Type} : List (Lit × DataW H) → Nat
  | [] => 0
  | x :: r => uptoBulkEntry x + uptoBulkEntries r
def uptoBulkEntry {H : Type} : Lit × DataW H → Nat
  | (.string bytes, d) => bytes.length + uptoBulk d + 1
  | (_, d) => uptoBulk d + 1
 end
def uptoSmall : (H : Type) → List (DataW H) → Bool := fun _ ds => decide (uptoBulkAll ds ≤ 1048576)
def OpenSpec.upto (s : _root_.Go.ChangeSpec) : _root_.Go.OpenSpec := { _root_.Go.OpenSpec.ofChange s with cond := some uptoSmall }

/-- 'skiarealaw15.BrakeRight', WHERE WHAT IT READS IS OF BULK AT MOST 1048576: true; the input reads as it did. -/
def brakeRightUptoRow : OpenClaim := { program := "ytkkkfjbcefpjpaa", sum := "b1cf89a080bb506febf94455f23193fa29185a87f5eb134c976e62ecd40d8d74", func := "skiarea/skiarealaw15.BrakeRight", spec := "brakeRight", unfollowed := true, recurses := true, apart := false, narrowed := true }
def BrakeRightUptoSaid : Prop := brakeRightUptoRow.holds Try.pinned (OpenSpec.upto brakeRightSpec)

/-- 'skiarealaw15.BrakeTests', WHERE WHAT IT READS IS OF BULK AT MOST 1048576: true; the input reads as it did. -/
def brakeTestsUptoRow : OpenClaim := { program := "ytkkkfjbcefpjpaa", sum := "b1cf89a080bb506febf94455f23193fa29185a87f5eb134c976e62ecd40d8d74", func := "skiarea/skiarealaw15.BrakeTests", spec := "brakeTests", unfollowed := true, recurses := true, apart := false, narrowed := true }
def BrakeTestsUptoSaid : Prop := brakeTestsUptoRow.holds Try.pinned (OpenSpec.upto brakeTestsSpec)

/-- 'skiarealaw15.BrakeValid', WHERE WHAT IT READS IS OF BULK AT MOST 1048576: true; the input reads as it did. -/
def brakeValidUptoRow : OpenClaim := { program := "ytkkkfjbcefpjpaa", sum := "b1cf89a080bb506febf94455f23193fa29185a87f5eb134c976e62ecd40d8d74", func := "skiarea/skiarealaw15.BrakeValid", spec := "brakeValid", unfollowed := true, recurses := true, apart := false, narrowed := true }
def BrakeValidUptoSaid : Prop := brakeValidUptoRow.holds Try.pinned (OpenSpec.upto brakeValidSpec)

/-- 'skiarealaw15.BrakeForces', WHERE WHAT IT READS IS OF BULK AT MOST 1048576: true; the input reads as it did. -/
def brakeForcesUptoRow : OpenClaim := { program := "ytkkkfjbcefpjpaa", sum := "b1cf89a080bb506febf94455f23193fa29185a87f5eb134c976e62ecd40d8d74", func := "skiarea/skiarealaw15.BrakeForces", spec := "brakeForces", unfollowed := true, recurses := true, apart := false, narrowed := true }
def BrakeForcesUptoSaid : Prop := brakeForcesUptoRow.holds Try.pinned (OpenSpec.upto brakeForcesSpec)

/-- 'skiarealaw15.BrakeDue', WHERE WHAT IT READS IS OF BULK AT MOST 1048576: true; the input reads as it did. -/
def brakeDueUptoRow : OpenClaim := { program := "ytkkkfjbcefpjpaa", sum := "b1cf89a080bb506febf94455f23193fa29185a87f5eb134c976e62ecd40d8d74", func := "skiarea/skiarealaw15.BrakeDue", spec := "brakeDue", unfollowed := true, recurses := true, apart := false, narrowed := true }
def BrakeDueUptoSaid : Prop := brakeDueUptoRow.holds Try.pinned (OpenSpec.upto brakeDueSpec)

/-- 'skiarealaw15.BrakeExpires', WHERE WHAT IT READS IS OF BULK AT MOST 1048576: true; the input reads as it did. -/
def brakeExpiresUptoRow : OpenClaim := { program := "ytkkkfjbcefpjpaa", sum := "b1cf89a080bb506febf94455f23193fa29185a87f5eb134c976e62ecd40d8d74", func := "skiarea/skiarealaw15.BrakeExpires", spec := "brakeExpires", unfollowed := true, recurses := true, apart := false, narrowed := true }
def BrakeExpiresUptoSaid : Prop := brakeExpiresUptoRow.holds Try.pinned (OpenSpec.upto brakeExpiresSpec)

/-- 'skiarealaw15.BrakeLoads', WHERE WHAT IT READS IS OF BULK AT MOST 1048576: true; the input reads as it did. -/
def brakeLoadsUptoRow : OpenClaim := { program := "ytkkkfjbcefpjpaa", sum := "b1cf89a080bb506febf94455f23193fa29185a87f5eb134c976e62ecd40d8d74", func := "skiarea/skiarealaw15.BrakeLoads", spec := "brakeLoads", unfollowed := true, recurses := true, apart := false, narrowed := true }
def BrakeLoadsUptoSaid : Prop := brakeLoadsUptoRow.holds Try.pinned (OpenSpec.upto brakeLoadsSpec)

end Rows
end Go.Proofs.Ytkkkfjbcefpjpaa

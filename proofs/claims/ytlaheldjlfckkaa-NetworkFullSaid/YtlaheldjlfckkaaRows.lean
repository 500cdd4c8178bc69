/-
  No cell of these rows narrows 'for every input' (looked for: loops, veiled, ifaces, maps, wideKeys, modest, calm, conditions, laid).
  DERIVED. THE GIVEN ROWS OF THIS SEAT. 6 by the template 'for every input the law returns true; each argument reads behind the call as it read before'; 0 by the template 'total and deterministic' (their statements: YtlaheldjlfckkaaTotals.lean).
  GIVEN WITH THE SEED: the statements are not yours to turn. If you find one false, say at which input.
  Laid BY PROGRAM, IN A SANDBOX (cutbox-rows.mjs): the forced cells as the released guide's own fill.sh prints them over the translation 8dfefefcb701e73a… (all of the seat's roots in one cut). By AI agents, Wed Nov 11 2026. No macro, syntax, notation, axiom, sorry.
-/
import Derived.Test.YtlaheldjlfckkaaChecked
import GoSem.Claim
import GoSem.ClaimJoined
import GoSem.ClaimMapViews
import Derived.JoinedTies
import Derived.KernelRfl
namespace Go.Proofs.Ytlaheldjlfckkaa
/- THE CELL 'sum', in the pinned program and in every row, IS THE sha256 OF THE DUMP (.gsa) THAT YtlaheldjlfckkaaProg.lean LOADS. Nothing in Lean hashes anything: it is a label: what it is worth is what the hold of that sum in a sandbox is worth. -/
noncomputable def Try.pinned : Pinned := { name := "ytlaheldjlfckkaa", sum := "8dfefefcb701e73a76782f8de137a2eb1c146e24754f299a706eb9d8516e9f0b", checked := Try.checked }
namespace Rows
def none {H : Type} : Left H := { results := [], args := [] }

/-- 'skiarealaw58.NetworkChecks': WHATEVER THE INPUT: true; the input reads as it did. -/
def networkChecksSpec : ChangeSpec := { name := "networkChecks", fn := fun _ => fun
  | [d1, d2] => { results := [.lit (.bool true)], args := [d1, d2] }
  | _ => none }
def networkChecksRow : OpenClaim := { program := "ytlaheldjlfckkaa", sum := "8dfefefcb701e73a76782f8de137a2eb1c146e24754f299a706eb9d8516e9f0b", func := "skiarea/skiarealaw58.NetworkChecks", spec := "networkChecks", unfollowed := true, recurses := true, apart := false }
def NetworkChecksSaid : Prop := networkChecksRow.holds Try.pinned (OpenSpec.ofChange networkChecksSpec)

/-- ITS FALSE NEIGHBOUR: 'it returns false'. Refute it at one input. -/
def networkChecksWrong : ChangeSpec := { name := "networkChecks", fn := fun _ => fun
  | [d1, d2] => { results := [.lit (.bool false)], args := [d1, d2] }
  | _ => none }
def NetworkChecksWrongFalsely : Prop := networkChecksRow.holds Try.pinned (OpenSpec.ofChange networkChecksWrong)

/-- 'skiarealaw58.NetworkBounds': WHATEVER THE INPUT: true; the input reads as it did. -/
def networkBoundsSpec : ChangeSpec := { name := "networkBounds", fn := fun _ => fun
  | [d1, d2] => { results := [.lit (.bool true)], args := [d1, d2] }
  | _ => none }
def networkBoundsRow : OpenClaim := { program := "ytlaheldjlfckkaa", sum := "8dfefefcb701e73a76782f8de137a2eb1c146e24754f299a706eb9d8516e9f0b", func := "skiarea/skiarealaw58.NetworkBounds", spec := "networkBounds", unfollowed := true, recurses := true, apart := false }
def NetworkBoundsSaid : Prop := networkBoundsRow.holds Try.pinned (OpenSpec.ofChange networkBoundsSpec)

/-- ITS FALSE NEIGHBOUR: 'it returns false'. Refute it at one input. -/
def networkBoundsWrong : ChangeSpec := { name := "networkBounds", fn := fun _ => fun
  | [d1, d2] => { results := [.lit (.bool false)], args := [d1, d2] }
  | _ => none }
def NetworkBoundsWrongFalsely : Prop := networkBoundsRow.holds Try.pinned (OpenSpec.ofChange networkBoundsWrong)

/-- 'skiarealaw58.NetworkPlays': WHATEVER THE INPUT: true; the input reads as it did. -/
def networkPlaysSpec : ChangeSpec := { name := "networkPlays", fn := fun _ => fun
  | [d1, d2] => { results := [.lit (.bool true)], args := [d1, d2] }
  | _ => none }
def networkPlaysRow : OpenClaim := { program := "ytlaheldjlfckkaa", sum := "8dfefefcb701e73a76782f8de137a2eb1c146e24754f299a706eb9d8516e9f0b", func := "skiarea/skiarealaw58.NetworkPlays", spec := "networkPlays", unfollowed := true, recurses := true, apart := false }
def NetworkPlaysSaid : Prop := networkPlaysRow.holds Try.pinned (OpenSpec.ofChange networkPlaysSpec)

/-- ITS FALSE NEIGHBOUR: 'it returns false'. Refute it at one input. -/
def networkPlaysWrong : ChangeSpec := { name := "networkPlays", fn := fun _ => fun
  | [d1, d2] => { results := [.lit (.bool false)], args := [d1, d2] }
  | _ => none }
def NetworkPlaysWrongFalsely : Prop := networkPlaysRow.holds Try.pinned (OpenSpec.ofChange networkPlaysWrong)

/-- 'skiarealaw58.NetworkFull': WHATEVER THE INPUT: true; the input reads as it did. -/
def networkFullSpec : ChangeSpec := { name := "networkFull", fn := fun _ => fun
  | [d1, d2, d3] => { results := [.lit (.bool true)], args := [d1, d2, d3] }
  | _ => none }
def networkFullRow : OpenClaim := { program := "ytlaheldjlfckkaa", sum := "8dfefefcb701e73a76782f8de137a2eb1c146e24754f299a706eb9d8516e9f0b", func := "skiarea/skiarealaw58.NetworkFull", spec := "networkFull", unfollowed := true, recurses := true, apart := false }
def NetworkFullSaid : Prop := networkFullRow.holds Try.pinned (OpenSpec.ofChange networkFullSpec)

/-- ITS FALSE NEIGHBOUR: 'it returns false'. Refute it at one input. -/
def networkFullWrong : ChangeSpec := { name := "networkFull", fn := fun _ => fun
  | [d1, d2, d3] => { results := [.lit (.bool false)], args := [d1, d2, d3] }
  | _ => none }
def NetworkFullWrongFalsely : Prop := networkFullRow.holds Try.pinned (OpenSpec.ofChange networkFullWrong)

/-- 'skiarealaw58.NetworkParts': WHATEVER THE INPUT: true; the input reads as it did. -/
def networkPartsSpec : ChangeSpec := { name := "networkParts", fn := fun _ => fun
  | [d1, d2, d3] => { results := [.lit (.bool true)], args := [d1, d2, d3] }
  | _ => none }
def networkPartsRow : OpenClaim := { program := "ytlaheldjlfckkaa", sum := "8dfefefcb701e73a76782f8de137a2eb1c146e24754f299a706eb9d8516e9f0b", func := "skiarea/skiarealaw58.NetworkParts", spec := "networkParts", unfollowed := true, recurses := true, apart := false }
def NetworkPartsSaid : Prop := networkPartsRow.holds Try.pinned (OpenSpec.ofChange networkPartsSpec)

/-- ITS FALSE NEIGHBOUR: 'it returns false'. Refute it at one input. -/
def networkPartsWrong : ChangeSpec := { name := "networkParts", fn := fun _ => fun
  | [d1, d2, d3] => { results := [.lit (.bool false)], args := [d1, d2, d3] }
  | _ => none }
def NetworkPartsWrongFalsely : Prop := networkPartsRow.holds Try.pinned (OpenSpec.ofChange networkPartsWrong)

/-- 'skiarealaw58.NetworkOnce': WHATEVER THE INPUT: true; the input reads as it did. -/
def networkOnceSpec : ChangeSpec := { name := "networkOnce", fn := fun _ => fun
  | [d1, d2] => { results := [.lit (.bool true)], args := [d1, d2] }
  | _ => none }
def networkOnceRow : OpenClaim := { program := "ytlaheldjlfckkaa", sum := "8dfefefcb701e73a76782f8de137a2eb1c146e24754f299a706eb9d8516e9f0b", func := "skiarea/skiarealaw58.NetworkOnce", spec := "networkOnce", unfollowed := true, recurses := true, apart := false }
def NetworkOnceSaid : Prop := networkOnceRow.holds Try.pinned (OpenSpec.ofChange networkOnceSpec)

/-- ITS FALSE NEIGHBOUR: 'it returns false'. Refute it at one input. -/
def networkOnceWrong : ChangeSpec := { name := "networkOnce", fn := fun _ => fun
  | [d1, d2] => { results := [.lit (.bool false)], args := [d1, d2] }
  | _ => none }
def NetworkOnceWrongFalsely : Prop := networkOnceRow.holds Try.pinned (OpenSpec.ofChange networkOnceWrong)

/- THE SECOND FORM. 'bulk': how many values and letters a reading holds, each counted each time it is reached (what is shared counts as often as it is met; a slice's spare places count too). A statement '..UptoSaid' is the law's where the arguments, and the package variables that the reading takes, are together of bulk at most 1048576: NARROWER than '..Said'. Prove '..Said' where nothing that the law and all that it calls make is longer than what came in: it says more and counts as full. Else prove '..UptoSaid'. A law counts once. -/
mutual
def uptoBulk {H : Type} : DataW H → Nat
  | .lit (.string bytes) => bytes.length + 1
  | .lit _ => 1
  | .nil => 1
  | .ptr d => uptoBulk d + 1
  | .slice elems spare => uptoBulkAll elems + uptoBulkAll spare + 1
  | .agg parts => uptoBulkAll parts + 1
  | .iface _ d => uptoBulk d + 1
  | .map entries => uptoBulkEntries entries + 1
  | .held _ => 1
def uptoBulkAll {H : Type} : List (DataW H) → Nat
  | [] => 0
  | d :: r => uptoBulk d + uptoBulkAll r
def uptoBulkEntries {H : Type} : List (Lit × DataW H) → Nat
  | [] => 0
  | x :: r => uptoBulkEntry x + uptoBulkEntries r
def uptoBulkEntry {H : Type} : Lit × DataW H → Nat
  | (.string bytes, d) => bytes.length + uptoBulk d + 1
  | (_, d) => uptoBulk d + 1
 end
def uptoSmall : (H : Type) → List (DataW H) → Bool := fun _ ds => decide (uptoBulkAll ds ≤ 1048576)
def OpenSpec.upto (s : _root_.Go.ChangeSpec) : _root_.Go.OpenSpec := { _root_.Go.OpenSpec.ofChange s with cond := some uptoSmall }

/-- 'skiarealaw58.NetworkChecks', WHERE WHAT IT READS IS OF BULK AT MOST 1048576: true; the input reads as it did. -/
def networkChecksUptoRow : OpenClaim := { program := "ytlaheldjlfckkaa", sum := "8dfefefcb701e73a76782f8de137a2eb1c146e24754f299a706eb9d8516e9f0b", func := "skiarea/skiarealaw58.NetworkChecks", spec := "networkChecks", unfollowed := true, recurses := true, apart := false, narrowed := true }
def NetworkChecksUptoSaid : Prop := networkChecksUptoRow.holds Try.pinned (OpenSpec.upto networkChecksSpec)

/-- 'skiarealaw58.NetworkBounds', WHERE WHAT IT READS IS OF BULK AT MOST 1048576: true; the input reads as it did. -/
def networkBoundsUptoRow : OpenClaim := { program := "ytlaheldjlfckkaa", sum := "8dfefefcb701e73a76782f8de137a2eb1c146e24754f299a706eb9d8516e9f0b", func := "skiarea/skiarealaw58.NetworkBounds", spec := "networkBounds", unfollowed := true, recurses := true, apart := false, narrowed := true }
def NetworkBoundsUptoSaid : Prop := networkBoundsUptoRow.holds Try.pinned (OpenSpec.upto networkBoundsSpec)

/-- 'skiarealaw58.NetworkPlays', WHERE WHAT IT READS IS OF BULK AT MOST 1048576: true; the input reads as it did. -/
def networkPlaysUptoRow : OpenClaim := { program := "ytlaheldjlfckkaa", sum := "8dfefefcb701e73a76782f8de137a2eb1c146e24754f299a706eb9d8516e9f0b", func := "skiarea/skiarealaw58.NetworkPlays", spec := "networkPlays", unfollowed := true, recurses := true, apart := false, narrowed := true }
def NetworkPlaysUptoSaid : Prop := networkPlaysUptoRow.holds Try.pinned (OpenSpec.upto networkPlaysSpec)

/-- 'skiarealaw58.NetworkFull', WHERE WHAT IT READS IS OF BULK AT MOST 1048576: true; the input reads as it did. -/
def networkFullUptoRow : OpenClaim := { program := "ytlaheldjlfckkaa", sum := "8dfefefcb701e73a76782f8de137a2eb1c146e24754f299a706eb9d8516e9f0b", func := "skiarea/skiarealaw58.NetworkFull", spec := "networkFull", unfollowed := true, recurses := true, apart := false, narrowed := true }
def NetworkFullUptoSaid : Prop := networkFullUptoRow.holds Try.pinned (OpenSpec.upto networkFullSpec)

/-- 'skiarealaw58.NetworkParts', WHERE WHAT IT READS IS OF BULK AT MOST 1048576: true; the input reads as it did. -/
def networkPartsUptoRow : OpenClaim := { program := "ytlaheldjlfckkaa", sum := "8dfefefcb701e73a76782f8de137a2eb1c146e24754f299a706eb9d8516e9f0b", func := "skiarea/skiarealaw58.NetworkParts", spec := "networkParts", unfollowed := true, recurses := true, apart := false, narrowed := true }
def NetworkPartsUptoSaid : Prop := networkPartsUptoRow.holds Try.pinned (OpenSpec.upto networkPartsSpec)

/-- 'skiarealaw58.NetworkOnce', WHERE WHAT IT READS IS OF BULK AT MOST 1048576: true; the input reads as it did. -/
def networkOnceUptoRow : OpenClaim := { program := "ytlaheldjlfckkaa", sum := "8dfefefcb701e73a76782f8de137a2eb1c146e24754f299a706eb9d8516e9f0b", func := "skiarea/skiarealaw58.NetworkOnce", spec := "networkOnce", unfollowed := true, recurses := true, apart := false, narrowed := true }
def NetworkOnceUptoSaid : Prop := networkOnceUptoRow.holds Try.pinned (OpenSpec.upto networkOnceSpec)

end Rows
end Go.Proofs.Ytlaheldjlfckkaa

/- What choose.Best of a program computes, as plain functions on lists. -/
import Derived.Test.YtjblknlmjklkgaaAx0
namespace Go.Proofs.Ytjblknlmjklkgaa.A
open Go.RowKit
set_option linter.unusedVariables false
set_option linter.unusedSimpArgs false

/-- The best so far, and what it is worth, after a choice has been seen. -/
def upd (cs : List Int) (worth : Int) (st : List Int × Int) : List Int × Int := if st.2 < worth then (cs, worth) else st

/-- The search over the n items from i on, behind the choice cs. -/
def loopP (l : List S42) : Nat → List Int → Int → Int → Int → Int → List Int × Int → List Int × Int
  | 0, _, _, _, _, _, st => st
  | n + 1, cs, i, a, b, worth, st => loopP l n cs (i + 1) a b worth
      (if (rd_T42 l i).f0 ≤ a ∧ (rd_T42 l i).f1 ≤ b then
        loopP l n (cs ++ [i]) (i + 1) (a - (rd_T42 l i).f0) (b - (rd_T42 l i).f1) (worth + (rd_T42 l i).f2) (upd (cs ++ [i]) (worth + (rd_T42 l i).f2) st)
      else st)

/-- An item's three numbers are from 0 to 1000000000. -/
def okItem (x : S42) : Bool := decide (0 ≤ x.f0 ∧ x.f0 ≤ 1000000000 ∧ 0 ≤ x.f1 ∧ x.f1 ≤ 1000000000 ∧ 0 ≤ x.f2 ∧ x.f2 ≤ 1000000000)

/-- What Right answers. -/
def rightP (l : List S42) : Int := if 12 < l.length then 4 else if l.all okItem then 0 else 2

/-- A whole number of 64 bits. -/
def In64 (a : Int) : Prop := -9223372036854775808 ≤ a ∧ a ≤ 9223372036854775807
instance (a : Int) : Decidable (In64 a) := by unfold In64; infer_instance

/-- What Best answers, where the search comes to its end. -/
def bestP (l : List S42) (a b : Int) : List Int := if 0 ≤ a ∧ 0 ≤ b then (loopP l l.length [] 0 a b 0 (upd [] 0 ([], -1))).1 else []

def choose_Best.f (l0 : List S42) (a1 : Int) (a2 : Int) : Option (List Int × Int) :=
  if In64 a1 ∧ In64 a2 then (if rightP l0 = 0 then some (bestP l0 a1 a2, 0) else some ([], rightP l0)) else none

end Go.Proofs.Ytjblknlmjklkgaa.A

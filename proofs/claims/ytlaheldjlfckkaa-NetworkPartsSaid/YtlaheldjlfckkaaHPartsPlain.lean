/- NetworkParts over numbers and lists. -/
import Derived.Test.YtlaheldjlfckkaaHBounds
namespace Go.Proofs.Ytlaheldjlfckkaa.A
open Go.RowKit Go.Proofs.YtlaheldjlfckkaaW.PrintWords
set_option linter.unusedVariables false
set_option linter.unusedSimpArgs false

theorem can_self (P : List Int) (a : Int) : canP P a a = siteP P a := by
  unfold canP
  simp
theorem can_symm (P : List Int) (a b : Int) : canP P a b = canP P b a := by
  unfold canP
  rw [Bool.and_comm (siteP P a) (siteP P b), show (rd P a == rd P b) = (rd P b == rd P a) by rw [Bool.eq_iff_iff]; simp only [beq_iff_eq]; exact eq_comm]
theorem can_trans {P : List Int} {a b c : Int} (h1 : canP P a b = true) (h2 : canP P b c = true) : canP P a c = true := by
  unfold canP at *
  simp only [Bool.and_eq_true, beq_iff_eq] at *
  exact ⟨⟨h1.1.1, h2.1.2⟩, by rw [h1.2, h2.2]⟩
theorem skip_shift (i : Int) : ∀ (M : List S39) (j : Int), i < j → (skip i j M).length = M.length := fun M j h => by rw [skip_none i M j h]
theorem skip_one : ∀ (M : List S39) (i j : Int), j ≤ i → i < j + M.length → (skip i j M).length + 1 = M.length
  | [], i, j, h0, h1 => by simp at h1; omega
  | m :: ms, i, j, h0, h1 => by
    simp only [skip]
    by_cases he : j = i
    · rw [if_pos he, skip_shift i ms (j + 1) (by omega)]
      simp
    · rw [if_neg he]
      have := skip_one ms i (j + 1) (by omega) (by simp at h1; omega)
      simp
      omega
/-- What Deliver answers at a message of the mail. -/
theorem deliver_at {P : List Int} {M : List S39} {i : Nat} (hi : i < M.length) :
    deliverP P M (i : Int) = if canP P (rd_T39 M (i : Int)).f0 (rd_T39 M (i : Int)).f1 = true then (P, skip (i : Int) 0 M, (rd_T39 M (i : Int)).f0, (rd_T39 M (i : Int)).f1, (rd_T39 M (i : Int)).f2, 0) else ([], [], 0, 0, [], 13) := by
  unfold deliverP
  rw [if_pos (by unfold indexP; simp; omega)]
theorem after_inv {n : Int} : ∀ (l : List S43) {N : List Int × List S39}, Inv n N.1 N.2 → Inv n (l.foldl stepP N).1 (l.foldl stepP N).2
  | [], _, h => h
  | o :: l, N, h => after_inv l (step_inv h o)

end Go.Proofs.Ytlaheldjlfckkaa.A

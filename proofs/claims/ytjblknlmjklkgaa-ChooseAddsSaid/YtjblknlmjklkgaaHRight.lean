/- What choose.Right answers, out of the printed function. -/
import Derived.Test.YtjblknlmjklkgaaHPure
import Derived.Test.YtjblknlmjklkgaaAx1
namespace Go.Proofs.Ytjblknlmjklkgaa.A
open Go.RowKit Go.Proofs.YtjblknlmjklkgaaW.PrintWords Go.Proofs.YtjblknlmjklkgaaW.PrintLast Go.Proofs.YtjblknlmjklkgaaW.PrintMore
set_option linter.unusedVariables false
set_option linter.unusedSimpArgs false

theorem wrap_small {i : Int} (h0 : 0 ≤ i) (h1 : i ≤ 1000000000000) : wrap64 (i + 1) = i + 1 := by
  unfold wrap64
  omega

theorem rd_lt (l : List S42) (i : Nat) (h : i < l.length) : rd_T42 l (i : Int) = l[i] := by
  unfold rd_T42
  simp [List.getD_eq_getElem?_getD, h]

theorem drop_rd (l : List S42) (i : Nat) (h : i < l.length) : l.drop i = rd_T42 l (i : Int) :: l.drop (i + 1) := by
  rw [rd_lt l i h, List.drop_eq_getElem_cons h]

theorem right_loop (l : List S42) (hl : l.length ≤ 12) (d : Nat) : ∀ (k i : Nat), i + d = l.length → d < k →
    choose_Right.l0 k l (l.length : Int) (i : Int) = some (if (l.drop i).all okItem then 0 else 2) := by
  induction d with
  | zero =>
    intro k i hi hk
    obtain ⟨k, rfl⟩ : ∃ m, k = m + 1 := ⟨k - 1, by omega⟩
    simp only [choose_Right.l0]
    rw [if_neg (by omega), List.drop_eq_nil_of_le (by omega)]
    rfl
  | succ d ih =>
    intro k i hi hk
    obtain ⟨k, rfl⟩ : ∃ m, k = m + 1 := ⟨k - 1, by omega⟩
    simp only [choose_Right.l0]
    rw [if_pos (by omega), if_pos (by omega), if_pos (by omega), wrap_small (by omega) (by omega), drop_rd l i (by omega)]
    obtain ⟨x, hx⟩ : ∃ x, x = rd_T42 l (i : Int) := ⟨_, rfl⟩
    rw [← hx]
    have h2 := ih k (i + 1) (by omega) (by omega)
    simp only [Int.natCast_add, Int.cast_ofNat_Int] at h2
    rw [h2]
    by_cases hb : okItem x = true
    · simp only [List.all_cons, hb, Bool.true_and]
      unfold okItem at hb
      simp only [decide_eq_true_eq] at hb
      rw [if_neg (by unfold mn; split <;> split <;> omega), if_neg (by unfold mx; split <;> split <;> omega)]
    · simp only [Bool.not_eq_true] at hb
      simp only [List.all_cons, hb, Bool.false_and]
      unfold okItem at hb
      simp only [decide_eq_false_iff_not] at hb
      by_cases h1 : mn (mn x.f0 x.f1) x.f2 < 0
      · rw [if_pos h1]; rfl
      · rw [if_neg h1, if_pos]
        · rfl
        · unfold mn at h1; unfold mx; split at h1 <;> split at h1 <;> split <;> split <;> omega

theorem right_f (l : List S42) (k : Nat) (hk : 12 < k) : choose_Right.f k l = some (rightP l) := by
  unfold choose_Right.f rightP
  by_cases h : 12 < l.length
  · rw [if_pos (by omega), if_pos h]
  · rw [if_neg (by omega), if_neg h]
    have := right_loop l (by omega) l.length k 0 (by omega) (by omega)
    simpa using this

end Go.Proofs.Ytjblknlmjklkgaa.A

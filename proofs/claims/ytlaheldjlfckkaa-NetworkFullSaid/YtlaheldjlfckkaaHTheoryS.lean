/- The reference's functions of layer 58 against plain ones (but Right). -/
import Derived.Test.YtlaheldjlfckkaaHTheory
import Derived.Test.YtlaheldjlfckkaaHAxS
import Derived.Test.YtlaheldjlfckkaaHAxM
import Derived.Test.YtlaheldjlfckkaaAx8
namespace Go.Proofs.Ytlaheldjlfckkaa.A
open Go.RowKit Go.Proofs.YtlaheldjlfckkaaW.PrintWords Go.Proofs.YtlaheldjlfckkaaW.PrintLast Go.Proofs.YtlaheldjlfckkaaW.PrintMore
set_option linter.unusedVariables false
set_option linter.unusedSimpArgs false

theorem refsite_f (P : List Int) (M : List S39) (a : Int) : skiarearef58_site.f P M a = some (siteP P a) := by
  unfold skiarearef58_site.f siteP
  by_cases h : a ≥ 0
  · rw [if_pos h]; congr 1; rw [decide_eq_decide]; omega
  · rw [if_neg h]; congr 1; symm; rw [decide_eq_false_iff_not]; omega
theorem refmessage_f (P : List Int) (M : List S39) (a b : Int) (body : List Int) (k : Nat) (hk : 0 < k) : skiarearef58_message.f k P M a b body = some (msgP P a b body) := by
  obtain ⟨k, rfl⟩ : ∃ m, k = m + 1 := ⟨k - 1, by omega⟩
  unfold skiarearef58_message.f msgP
  rw [refsite_f, refsite_f]
  simp only [Option.bind_some]
  cases h1 : siteP P a with
  | false => simp [skiarearef58_message.j0]
  | true =>
    cases h2 : siteP P b with
    | false => simp [skiarearef58_message.j0]
    | true =>
      simp only [if_true, Bool.and_self, Bool.not_true, skiarearef58_message.j0, Bool.false_eq_true, if_false]
      by_cases h3 : a = b
      · rw [if_pos h3, if_pos h3]
      · rw [if_neg h3, if_neg h3]
        by_cases h4 : 2000 < body.length
        · rw [if_pos (by omega), if_pos h4]
        · rw [if_neg (by omega), if_neg h4]

theorem refparts_loop (l : List Int) (hl : l.length ≤ 1000) (d : Nat) : ∀ (k i : Nat), i + d = l.length → d < k → skiarearef58_parts.l0 k l (i : Int) = some ((l.drop i).all okPart) := by
  induction d with
  | zero =>
    intro k i hi hk
    obtain ⟨k, rfl⟩ : ∃ m, k = m + 1 := ⟨k - 1, by omega⟩
    simp only [skiarearef58_parts.l0]
    rw [if_neg (by omega), List.drop_eq_nil_of_le (by omega)]
    rfl
  | succ d ih =>
    intro k i hi hk
    obtain ⟨k, rfl⟩ : ∃ m, k = m + 1 := ⟨k - 1, by omega⟩
    simp only [skiarearef58_parts.l0]
    rw [if_pos (by omega), if_pos (by omega), drop_rdi l i (by omega), wrap_small (by omega) (by omega), List.all_cons]
    have h2 := ih k (i + 1) (by omega) (by omega)
    simp only [Int.natCast_add, Int.cast_ofNat_Int] at h2
    by_cases h3 : rd l (i : Int) < 0
    · rw [if_pos h3, show okPart (rd l (i : Int)) = false by unfold okPart; simp; omega]; rfl
    · rw [if_neg h3]
      by_cases h4 : rd l (i : Int) > 16
      · rw [if_pos h4, show okPart (rd l (i : Int)) = false by unfold okPart; simp; omega]; rfl
      · rw [if_neg h4, show okPart (rd l (i : Int)) = true by unfold okPart; simp; omega, h2]; rfl
theorem refparts_f (l : List Int) (hl : l.length ≤ 1000) (k : Nat) (hk : 1000 < k) : skiarearef58_parts.f k l = some (l.all okPart) := by
  unfold skiarearef58_parts.f
  have := refparts_loop l hl l.length k 0 (by omega) (by omega)
  simpa using this
theorem same_loop1 (P : List Int) {M : List S39} (hM : M.length ≤ 1000) (d : Nat) : ∀ (k j : Nat), j + d = M.length → d < k → skiarearef58_Same.l1 k (j : Int) P M P M = some true := by
  induction d with
  | zero =>
    intro k j hj hk
    obtain ⟨k, rfl⟩ : ∃ m, k = m + 1 := ⟨k - 1, by omega⟩
    simp only [skiarearef58_Same.l1]
    rw [if_neg (by omega)]
  | succ d ih =>
    intro k j hj hk
    obtain ⟨k, rfl⟩ : ∃ m, k = m + 1 := ⟨k - 1, by omega⟩
    simp only [skiarearef58_Same.l1]
    rw [if_pos (by omega), if_pos (by omega), if_pos (by omega), samemsg_f, wrap_small (by omega) (by omega)]
    have h2 := ih k (j + 1) (by omega) (by omega)
    simp only [Int.natCast_add, Int.cast_ofNat_Int] at h2
    simp only [Option.bind_some, if_true]
    exact h2
theorem same_loop0 (P : List Int) {M : List S39} (hP : P.length ≤ 1000) (hM : M.length ≤ 1000) (d : Nat) : ∀ (k j : Nat), j + d = P.length → d + 1001 < k → skiarearef58_Same.l0 k (j : Int) P M P M = some true := by
  induction d with
  | zero =>
    intro k j hj hk
    obtain ⟨k, rfl⟩ : ∃ m, k = m + 1 := ⟨k - 1, by omega⟩
    simp only [skiarearef58_Same.l0]
    rw [if_neg (by omega)]
    exact same_loop1 P hM M.length k 0 (by omega) (by omega)
  | succ d ih =>
    intro k j hj hk
    obtain ⟨k, rfl⟩ : ∃ m, k = m + 1 := ⟨k - 1, by omega⟩
    simp only [skiarearef58_Same.l0]
    rw [if_pos (by omega), if_pos (by omega), if_pos (by omega), if_pos trivial, wrap_small (by omega) (by omega)]
    have h2 := ih k (j + 1) (by omega) (by omega)
    simp only [Int.natCast_add, Int.cast_ofNat_Int] at h2
    exact h2
theorem same_f (P : List Int) (M : List S39) (hP : P.length ≤ 1000) (hM : M.length ≤ 1000) (k : Nat) (hk : 2010 < k) : skiarearef58_Same.f k P M P M = some true := by
  obtain ⟨k, rfl⟩ : ∃ m, k = m + 1 := ⟨k - 1, by omega⟩
  unfold skiarearef58_Same.f
  rw [if_pos rfl]
  simp only [bne_self_eq_false, skiarearef58_Same.j0, Bool.false_eq_true, if_false]
  exact same_loop0 P hP hM P.length k 0 (by omega) (by omega)


end Go.Proofs.Ytlaheldjlfckkaa.A

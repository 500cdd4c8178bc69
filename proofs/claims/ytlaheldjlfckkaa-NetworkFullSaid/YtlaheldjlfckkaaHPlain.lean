/- done and after, plainly: what calls make of a network; a network within the bounds stays within them. -/
import Derived.Test.YtlaheldjlfckkaaHDone
namespace Go.Proofs.Ytlaheldjlfckkaa.A
open Go.RowKit Go.Proofs.YtlaheldjlfckkaaW.PrintWords
set_option linter.unusedVariables false
set_option linter.unusedSimpArgs false

/-- A network as the calls leave it. -/
def Ok (P : List Int) (M : List S39) : Prop := P.length ≤ 16 ∧ M.length ≤ 256 ∧ ∀ m ∈ M, m.f2.length ≤ 2000
theorem Ok.small {P : List Int} {M : List S39} (h : Ok P M) : Small P M := ⟨by have := h.1; omega, by have := h.2.1; omega, fun m hm => by have := h.2.2 m hm; omega⟩
theorem skip_mem {i : Int} : ∀ {j : Int} {M : List S39} {m : S39}, m ∈ skip i j M → m ∈ M
  | _, [], _, h => by simp [skip] at h
  | j, x :: xs, m, h => by
    simp only [skip] at h
    split at h
    · exact List.mem_cons_of_mem _ (skip_mem h)
    · rcases List.mem_cons.1 h with rfl | h
      · exact List.mem_cons_self
      · exact List.mem_cons_of_mem _ (skip_mem h)
theorem skip_length {i : Int} : ∀ (j : Int) (M : List S39), (skip i j M).length ≤ M.length
  | _, [] => by simp [skip]
  | j, x :: xs => by
    have := skip_length (i := i) (j + 1) xs
    simp only [skip]
    split <;> simp <;> omega
theorem Ok.skip {P : List Int} {M : List S39} (h : Ok P M) (i j : Int) : Ok P (skip i j M) :=
  ⟨h.1, Nat.le_trans (skip_length j M) h.2.1, fun m hm => h.2.2 m (skip_mem hm)⟩
theorem Ok.push {P : List Int} {M : List S39} (h : Ok P M) (hl : ¬ 256 ≤ M.length) {m : S39} (hm : m.f2.length ≤ 2000) : Ok P (M ++ [m]) :=
  ⟨h.1, by simp; omega, fun x hx => by
    rcases List.mem_append.1 hx with hx | hx
    · exact h.2.2 x hx
    · simp only [List.mem_singleton] at hx; rw [hx]; exact hm⟩
theorem msg_body {P : List Int} {a b : Int} {body : List Int} (h : msgP P a b body = 0) : body.length ≤ 2000 := by
  unfold msgP at h
  split at h
  · split at h
    · omega
    · split at h <;> omega
  · omega
theorem rd_ok {P : List Int} {M : List S39} (hS : Ok P M) {i : Int} (h : indexP M i = true) : (rd_T39 M i).f2.length ≤ 2000 := by
  obtain ⟨h0, h1⟩ := index_bounds h
  obtain ⟨j, rfl⟩ := Int.eq_ofNat_of_zero_le h0
  exact hS.2.2 _ (rd_mem (by omega))
theorem done_ok {P : List Int} {M : List S39} (h : Ok P M) (o : S43) (he : (doneP P M o).2.2.2.2.2 = 0) : Ok (doneP P M o).1 (doneP P M o).2.1 := by
  unfold doneP at he ⊢
  split
  · rename_i h0
    rw [if_pos h0] at he
    simp only [lift3, sendP] at he ⊢
    split
    · rename_i h1
      rw [if_pos h1] at he
      split
      · rename_i h2
        rw [if_pos h2] at he
        simp at he
      · rename_i h2
        exact h.push h2 (msg_body h1)
    · rename_i h1
      rw [if_neg h1] at he
      exact absurd he h1
  · rename_i h0
    rw [if_neg h0] at he
    split
    · rename_i h1
      rw [if_pos h1] at he
      simp only [deliverP] at he ⊢
      split
      · rename_i h2
        rw [if_pos h2] at he
        split
        · exact h.skip _ _
        · rename_i h3
          rw [if_neg h3] at he
          simp at he
      · rename_i h2
        rw [if_neg h2] at he
        simp at he
    · rename_i h1
      rw [if_neg h1] at he
      split
      · rename_i h2
        rw [if_pos h2] at he
        simp only [lift3, loseP] at he ⊢
        split
        · exact h.skip _ _
        · rename_i h3
          rw [if_neg h3] at he
          simp at he
      · rename_i h2
        rw [if_neg h2] at he
        split
        · rename_i h3
          rw [if_pos h3] at he
          simp only [lift3, copyP] at he ⊢
          split
          · rename_i h4
            rw [if_pos h4] at he
            split
            · rename_i h5
              rw [if_pos h5] at he
              simp at he
            · rename_i h5
              exact h.push h5 (rd_ok h h4)
          · rename_i h4
            rw [if_neg h4] at he
            simp at he
        · rename_i h3
          rw [if_neg h3] at he
          simp only [lift3, splitP] at he ⊢
          split
          · rename_i h4
            exact ⟨by rw [h4.1]; exact h.1, h.2⟩
          · rename_i h4
            rw [if_neg h4] at he
            simp at he
def stepP (n : List Int × List S39) (o : S43) : List Int × List S39 := if (doneP n.1 n.2 o).2.2.2.2.2 = 0 then ((doneP n.1 n.2 o).1, (doneP n.1 n.2 o).2.1) else n
/-- The network after calls. -/
def afterP (P : List Int) (M : List S39) (l : List S43) : List Int × List S39 := l.foldl stepP (P, M)
theorem step_ok {n : List Int × List S39} (h : Ok n.1 n.2) (o : S43) : Ok (stepP n o).1 (stepP n o).2 := by
  unfold stepP
  split
  · rename_i he; exact done_ok h o he
  · exact h
theorem after_ok : ∀ (l : List S43) {n : List Int × List S39}, Ok n.1 n.2 → Ok (l.foldl stepP n).1 (l.foldl stepP n).2
  | [], _, h => h
  | o :: l, n, h => after_ok l (step_ok h o)
theorem drop_rd43 (l : List S43) (i : Nat) (h : i < l.length) : l.drop i = rd_T43 l (i : Int) :: l.drop (i + 1) := by
  rw [List.drop_eq_getElem_cons h]
  unfold rd_T43
  simp [List.getD_eq_getElem?_getD, h]

end Go.Proofs.Ytlaheldjlfckkaa.A

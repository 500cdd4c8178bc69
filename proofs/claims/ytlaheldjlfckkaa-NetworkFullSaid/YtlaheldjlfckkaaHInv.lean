/- What holds of a network that the calls make. -/
import Derived.Test.YtlaheldjlfckkaaHPlain
namespace Go.Proofs.Ytlaheldjlfckkaa.A
open Go.RowKit Go.Proofs.YtlaheldjlfckkaaW.PrintWords Go.Proofs.YtlaheldjlfckkaaW.PrintLast Go.Proofs.YtlaheldjlfckkaaW.PrintMore
set_option linter.unusedVariables false
set_option linter.unusedSimpArgs false

/-! ### what holds of a network that the calls make -/
structure Inv (n : Int) (P : List Int) (M : List S39) : Prop where
  len : (P.length : Int) = n
  lo : 1 ≤ n
  hi : n ≤ 16
  parts : P.all okPart = true
  mail : M.length ≤ 256
  each : ∀ m ∈ M, msgP P m.f0 m.f1 m.f2 = 0
theorem Inv.ok {n : Int} {P : List Int} {M : List S39} (h : Inv n P M) : Ok P M := ⟨by have := h.len; have := h.hi; omega, h.mail, fun m hm => msg_body (h.each m hm)⟩
theorem rightGo_zero {P : List Int} : ∀ {M : List S39}, (∀ m ∈ M, msgP P m.f0 m.f1 m.f2 = 0) → rightGo P M = 0
  | [], _ => rfl
  | m :: ms, h => by
    simp only [rightGo]
    rw [if_pos (h m List.mem_cons_self)]
    exact rightGo_zero (fun x hx => h x (List.mem_cons_of_mem _ hx))
theorem Inv.right {n : Int} {P : List Int} {M : List S39} (h : Inv n P M) : rightP P M = 0 := by
  have h1 := h.len
  have h2 := h.lo
  have h3 := h.hi
  have h4 := h.mail
  unfold rightP
  rw [if_neg (by rintro h'; rcases h' with h' | h' | h' <;> first | omega | (rw [h.parts] at h'; cases h')), if_neg (by omega)]
  exact rightGo_zero h.each
theorem msgP_len {P Q : List Int} (h : P.length = Q.length) (a b : Int) (l : List Int) : msgP P a b l = msgP Q a b l := by
  unfold msgP siteP
  rw [h]
theorem Inv.skip {n : Int} {P : List Int} {M : List S39} (h : Inv n P M) (i j : Int) : Inv n P (skip i j M) :=
  ⟨h.len, h.lo, h.hi, h.parts, Nat.le_trans (skip_length j M) h.mail, fun m hm => h.each m (skip_mem hm)⟩
theorem Inv.push {n : Int} {P : List Int} {M : List S39} (h : Inv n P M) (hl : ¬ 256 ≤ M.length) {m : S39} (hm : msgP P m.f0 m.f1 m.f2 = 0) : Inv n P (M ++ [m]) :=
  ⟨h.len, h.lo, h.hi, h.parts, by simp; omega, fun x hx => by
    rcases List.mem_append.1 hx with hx | hx
    · exact h.each x hx
    · simp only [List.mem_singleton] at hx; rw [hx]; exact hm⟩
theorem Inv.rd {n : Int} {P : List Int} {M : List S39} (h : Inv n P M) {i : Int} (hi : indexP M i = true) : msgP P (rd_T39 M i).f0 (rd_T39 M i).f1 (rd_T39 M i).f2 = 0 := by
  obtain ⟨h0, h1⟩ := index_bounds hi
  obtain ⟨j, rfl⟩ := Int.eq_ofNat_of_zero_le h0
  exact h.each _ (rd_mem (by omega))
theorem done_inv {n : Int} {P : List Int} {M : List S39} (h : Inv n P M) (o : S43) (he : (doneP P M o).2.2.2.2.2 = 0) : Inv n (doneP P M o).1 (doneP P M o).2.1 := by
  unfold doneP at he ⊢
  split
  · rename_i h0
    rw [if_pos h0] at he
    simp only [lift3, sendP] at he ⊢
    split
    · rename_i h1
      rw [if_pos h1] at he
      split
      · rename_i h2
        rw [if_pos h2] at he
        simp at he
      · rename_i h2
        exact h.push h2 h1
    · rename_i h1
      rw [if_neg h1] at he
      exact absurd he h1
  · rename_i h0
    rw [if_neg h0] at he
    split
    · rename_i h1
      rw [if_pos h1] at he
      simp only [deliverP] at he ⊢
      split
      · rename_i h2
        rw [if_pos h2] at he
        split
        · exact h.skip _ _
        · rename_i h3
          rw [if_neg h3] at he
          simp at he
      · rename_i h2
        rw [if_neg h2] at he
        simp at he
    · rename_i h1
      rw [if_neg h1] at he
      split
      · rename_i h2
        rw [if_pos h2] at he
        simp only [lift3, loseP] at he ⊢
        split
        · exact h.skip _ _
        · rename_i h3
          rw [if_neg h3] at he
          simp at he
      · rename_i h2
        rw [if_neg h2] at he
        split
        · rename_i h3
          rw [if_pos h3] at he
          simp only [lift3, copyP] at he ⊢
          split
          · rename_i h4
            rw [if_pos h4] at he
            split
            · rename_i h5
              rw [if_pos h5] at he
              simp at he
            · rename_i h5
              exact h.push h5 (h.rd h4)
          · rename_i h4
            rw [if_neg h4] at he
            simp at he
        · rename_i h3
          rw [if_neg h3] at he
          simp only [lift3, splitP] at he ⊢
          split
          · rename_i h4
            refine ⟨by have := h.len; rw [h4.1]; exact this, h.lo, h.hi, h4.2, h.mail, fun m hm => ?_⟩
            rw [msgP_len h4.1]
            exact h.each m hm
          · rename_i h4
            rw [if_neg h4] at he
            simp at he
theorem step_inv {k : Int} {n : List Int × List S39} (h : Inv k n.1 n.2) (o : S43) : Inv k (stepP n o).1 (stepP n o).2 := by
  unfold stepP
  split
  · rename_i he; exact done_inv h o he
  · exact h
theorem new_inv {n : Int} (he : (newP n).2.2 = 0) : Inv n (newP n).1 (newP n).2.1 := by
  unfold newP at he ⊢
  split
  · rename_i h; rw [if_pos h] at he; simp at he
  · rename_i h
    refine ⟨by simp; omega, by omega, by omega, ?_, by simp, by simp⟩
    rw [List.all_eq_true]
    intro x hx
    have := List.eq_of_mem_replicate hx
    subst this
    rfl

theorem small_all {l : List S43} (h : smallP l = true) : l.length ≤ 40 ∧ ∀ o ∈ l, o.f3.length ≤ 3000 ∧ o.f4.length ≤ 40 := by
  unfold smallP at h
  simp only [Bool.and_eq_true, decide_eq_true_eq, List.all_eq_true] at h
  exact ⟨h.1, fun o ho => by have := h.2 o ho; simpa using this⟩


end Go.Proofs.Ytlaheldjlfckkaa.A

/- ChooseBests, ChooseBest, ChooseLimits, ChooseDrops over numbers and lists. -/
import Derived.Test.YtjblknlmjklkgaaHPureA
import Derived.Test.YtjblknlmjklkgaaHRefBest
import Derived.Test.YtjblknlmjklkgaaAx7
import Derived.Test.YtjblknlmjklkgaaAx8
import Derived.Test.YtjblknlmjklkgaaAx9
namespace Go.Proofs.Ytjblknlmjklkgaa.A
open Go.RowKit Go.Proofs.YtjblknlmjklkgaaW.PrintWords
set_option linter.unusedVariables false
set_option linter.unusedSimpArgs false

theorem best_f (l : List S42) {a b : Int} (h1 : In64 a) (h2 : In64 b) : choose_Best.f l a b = some (if rightP l = 0 then (bestP l a b, 0) else ([], rightP l)) := by
  unfold choose_Best.f
  rw [if_pos ⟨h1, h2⟩]
  by_cases h : rightP l = 0
  · rw [if_pos h, if_pos h]
  · rw [if_neg h, if_neg h]

theorem best_inc {l : List S42} (hI : Items l) (a b : Int) : Inc 0 l.length (bestP l a b) := by
  by_cases h : 0 ≤ a ∧ 0 ≤ b
  · exact (best_is hI.pos h.1 h.2).1.1
  · rw [best_none (by omega)]; trivial
theorem best_len {l : List S42} (hI : Items l) (a b : Int) : (bestP l a b).length ≤ 12 := by
  have h1 := (best_inc hI a b).len (by omega)
  have h2 := hI.1
  omega
theorem need_best {l : List S42} (hI : Items l) (a b : Int) (k : Nat) (hk : 40 < k) :
    choose_Need.f k l (bestP l a b) = some (sumF S42.f0 l (bestP l a b), sumF S42.f1 l (bestP l a b), sumF S42.f2 l (bestP l a b), true) := by
  rw [need_f hI _ (by have := best_len hI a b; omega) k hk]
  unfold needR
  rw [if_pos (best_inc hI a b)]
  simp

theorem PureChooseBests (l : List S42) (a b : Int) (hm : l.length ≤ maxLen) (hy : l.length * 24 ≤ 140737488351232) (hF : ∀ x ∈ l, IntsOk x) (w1 : (Lit.int .i64 a).wf = true) (w2 : (Lit.int .i64 b).wf = true) :
    ∃ k, skiarealaw07_ChooseBests.f k l a b = some true := by
  refine ⟨6000, ?_⟩
  unfold skiarealaw07_ChooseBests.f skiarealaw07_alive.f
  simp only [Option.bind_some, if_true]
  by_cases h : (l.length : Int) > 30
  · rw [if_pos h]
  · rw [if_neg h, best_f l (in64 w1) (in64 w2), refbest_f l a b 6000 (by omega)]
    simp only [Option.bind_some]
    by_cases h0 : rightP l = 0
    · rw [if_pos h0]
      have := best_len (items_of' h0) a b
      rw [same_f (bestP l a b) (by omega) 6000 (by omega)]
      simp
    · rw [if_neg h0]
      rw [same_f _ (by simp) 6000 (by simp)]
      simp

theorem fit_best {l : List S42} (hI : Items l) (a b : Int) : decide (Fit l a b (bestP l a b)) = decide (0 ≤ a ∧ 0 ≤ b) := by
  by_cases h : 0 ≤ a ∧ 0 ≤ b
  · simp [h, (best_is hI.pos h.1 h.2).1]
  · simp [h, fit_none hI.pos (show a < 0 ∨ b < 0 by omega)]

theorem PureChooseBest (l : List S42) (a b : Int) (cs : List Int) (hm : l.length ≤ maxLen) (hy : l.length * 24 ≤ 140737488351232) (hF : ∀ x ∈ l, IntsOk x) (hab : (Lit.int .i64 a).wf = true ∧ (Lit.int .i64 b).wf = true)
    (hm2 : cs.length ≤ maxLen) (hy2 : cs.length * 8 ≤ 140737488351232) (hF2 : ∀ x ∈ cs, (Lit.int .i64 x).wf = true) :
    ∃ k, skiarealaw07_ChooseBest.f k l a b cs = some true := by
  refine ⟨1000, ?_⟩
  unfold skiarealaw07_ChooseBest.f skiarealaw07_alive.f
  simp only [Option.bind_some, if_true]
  by_cases h : (cs.length : Int) > 40
  · rw [if_pos h]
  · rw [if_neg h, best_f l (in64 hab.1) (in64 hab.2)]
    simp only [Option.bind_some]
    by_cases h0 : rightP l = 0
    · have hI := items_of' h0
      have hlen := best_len hI a b
      rw [if_pos h0]
      simp only [if_true]
      rw [need_best hI a b 1000 (by omega)]
      simp only [Option.bind_some, if_true]
      rw [fits_f hI _ a b (by omega) 1000 (by omega), fit_best hI]
      simp only [Option.bind_some]
      have tail : skiarealaw07_ChooseBest.j0 1000 l cs (bestP l a b) (sumF S42.f2 l (bestP l a b)) false a b = some true := by
        simp only [skiarealaw07_ChooseBest.j0]
        rw [if_neg (by simp), fits_f hI cs a b (by omega) 999 (by omega)]
        simp only [Option.bind_some]
        by_cases hf : Fit l a b cs
        · rw [if_pos (by simpa using hf), need_f hI cs (by omega) 999 (by omega)]
          have hn : needR l 0 cs 0 0 0 = (sumF S42.f0 l cs, sumF S42.f1 l cs, sumF S42.f2 l cs, true) := by unfold needR; rw [if_pos hf.1]; simp
          rw [hn]
          simp only [Option.bind_some, if_true]
          have hab2 : 0 ≤ a ∧ 0 ≤ b := by
            by_cases h5 : 0 ≤ a ∧ 0 ≤ b
            · exact h5
            · exact absurd hf (fit_none hI.pos (by omega) _)
          rcases (best_is hI.pos hab2.1 hab2.2).2 cs hf with h6 | ⟨h6, h7⟩
          · rw [if_pos h6]
          · rw [if_neg (by omega), if_pos h6, less_f cs _ (by omega) 999 (by omega), h7]
            rfl
        · rw [if_neg (by simpa using hf)]
      by_cases ha : a < 0
      · rw [if_pos ha, show (decide (0 ≤ a ∧ 0 ≤ b) == true) = false by simp; omega]
        exact tail
      · rw [if_neg ha, show (decide (0 ≤ a ∧ 0 ≤ b) == decide (b < 0)) = false by by_cases hb : b < 0 <;> simp [hb] <;> omega]
        exact tail
    · rw [if_neg h0]
      simp only
      rw [if_neg h0]
      rfl

theorem PureChooseLimits (l : List S42) (a b m n : Int) (hm : l.length ≤ maxLen) (hy : l.length * 24 ≤ 140737488351232) (hF : ∀ x ∈ l, IntsOk x) (hab : (Lit.int .i64 a).wf = true ∧ (Lit.int .i64 b).wf = true)
    (hmn : (Lit.int .u16 m).wf = true ∧ (Lit.int .u16 n).wf = true) : ∃ k, skiarealaw07_ChooseLimits.f k l a b m n = some true := by
  refine ⟨1000, ?_⟩
  have b1 := bounds_u16 hmn.1
  have b2 := bounds_u16 hmn.2
  unfold skiarealaw07_ChooseLimits.f skiarealaw07_alive.f
  simp only [Option.bind_some, if_true]
  have skip : skiarealaw07_ChooseLimits.j0 1000 l a b true m n = some true := by simp only [skiarealaw07_ChooseLimits.j0, if_true]
  by_cases g1 : a < -1000000
  · rw [if_pos g1]; exact skip
  · rw [if_neg g1]
    by_cases g2 : b < -1000000
    · rw [if_pos g2]; exact skip
    · rw [if_neg g2]
      by_cases g3 : a > 1099511627776
      · rw [if_pos g3]; exact skip
      · rw [if_neg g3]
        by_cases g4 : b > 1099511627776
        · rw [show decide (b > 1099511627776) = true by simpa using g4]; exact skip
        · rw [show decide (b > 1099511627776) = false by simpa using g4]
          simp only [skiarealaw07_ChooseLimits.j0]
          rw [if_neg (by simp)]
          have e1 : wrap64 (a + wrap64 m) = a + m := by unfold wrap64; omega
          have e2 : wrap64 (b + wrap64 n) = b + n := by unfold wrap64; omega
          rw [e1, e2, best_f l (by unfold In64; omega) (by unfold In64; omega), best_f l (by unfold In64; omega) (by unfold In64; omega)]
          simp only [Option.bind_some]
          by_cases h0 : rightP l = 0
          · have hI := items_of' h0
            rw [if_pos h0]
            simp only [if_true]
            rw [if_pos h0]
            simp only [bne_self_eq_false]
            simp only [skiarealaw07_ChooseLimits.j1]
            rw [if_neg (by simp), need_best hI a b 998 (by omega), need_best hI (a + m) (b + n) 998 (by omega)]
            simp only [Option.bind_some, if_true]
            congr 1
            rw [decide_eq_true_eq]
            have hn := sumF_nonneg (f := S42.f2) (l := l) (fun i => (hI.pos i).2.2) (bestP l (a + m) (b + n))
            by_cases h5 : 0 ≤ a ∧ 0 ≤ b
            · have f1 := (best_is hI.pos h5.1 h5.2).1
              rcases (best_is hI.pos (show 0 ≤ a + m by omega) (show 0 ≤ b + n by omega)).2 _ ⟨f1.1, by have := f1.2.1; omega, by have := f1.2.2; omega⟩ with h6 | ⟨h6, _⟩ <;> omega
            · rw [best_none (a := a) (b := b) (by omega)]
              simpa [sumF] using hn
          · rw [if_neg h0]
            simp only
            rw [if_neg h0, if_neg h0]
            simp [skiarealaw07_ChooseLimits.j1]

end Go.Proofs.Ytjblknlmjklkgaa.A

/- The printed functions of layer 15 (brakes) against plain ones: Valid, Right, find, Test, Force, Due. -/
import Derived.Test.YtkkkfjbcefpjpaaHFind
import Derived.Test.YtkkkfjbcefpjpaaHClone
import Derived.Test.YtkkkfjbcefpjpaaHRefTest
import Derived.Test.YtkkkfjbcefpjpaaAx3
import Derived.Test.YtkkkfjbcefpjpaaAx4
import Derived.Test.YtkkkfjbcefpjpaaAx5
import Derived.Test.YtkkkfjbcefpjpaaAx6
import Derived.Test.YtkkkfjbcefpjpaaAx7
import Derived.Test.YtkkkfjbcefpjpaaAx8
import Derived.Test.YtkkkfjbcefpjpaaAx9
namespace Go.Proofs.Ytkkkfjbcefpjpaa.A
open Go.RowKit Go.Proofs.YtkkkfjbcefpjpaaW.PrintWords Go.Proofs.YtkkkfjbcefpjpaaW.PrintLast Go.Proofs.YtkkkfjbcefpjpaaW.PrintMore
set_option linter.unusedVariables false
set_option linter.unusedSimpArgs false

def In64 (a : Int) : Prop := -9223372036854775808 ≤ a ∧ a ≤ 9223372036854775807
theorem wrap_in {a : Int} (h : In64 a) : wrap64 a = a := by
  unfold In64 at h
  unfold wrap64
  omega
theorem wrap_small {i : Int} (h0 : 0 ≤ i) (h1 : i ≤ 1000000000000) : wrap64 (i + 1) = i + 1 := wrap_in ⟨by omega, by omega⟩

/-! ### Valid -/
/-- The test of a brake of the force f, tested at s with m measured, counts at t. -/
def validP (f s m t : Int) : Bool := decide (0 ≤ s ∧ s ≤ t ∧ t - s < 604800 ∧ 9 * f ≤ 10 * m)

theorem divide_f (a b : Int) (ha : In64 a) (hb : b = 9 ∨ b = 10) : ∃ q r, brake_divide.f a b = some (q, r) ∧ b * q + r = a ∧ 0 ≤ r ∧ r < b := by
  unfold brake_divide.f
  have h1 := Int.mul_tdiv_add_tmod a b
  have h2 := Int.tmod_lt_of_pos a (b := b) (by omega)
  have h3 := Int.lt_tmod_of_pos a (b := b) (by omega)
  generalize Int.tdiv a b = q at *
  generalize Int.tmod a b = r at *
  unfold In64 at ha
  rw [if_neg (by omega)]
  rcases hb with rfl | rfl
  · by_cases hr : r < 0
    · rw [if_pos hr, wrap_in (a := q) ⟨by omega, by omega⟩, wrap_in (a := q - 1) ⟨by omega, by omega⟩, wrap_in (a := r + 9) ⟨by omega, by omega⟩]
      exact ⟨_, _, rfl, by omega, by omega, by omega⟩
    · rw [if_neg hr, wrap_in (a := q) ⟨by omega, by omega⟩]
      exact ⟨_, _, rfl, by omega, by omega, by omega⟩
  · by_cases hr : r < 0
    · rw [if_pos hr, wrap_in (a := q) ⟨by omega, by omega⟩, wrap_in (a := q - 1) ⟨by omega, by omega⟩, wrap_in (a := r + 10) ⟨by omega, by omega⟩]
      exact ⟨_, _, rfl, by omega, by omega, by omega⟩
    · rw [if_neg hr, wrap_in (a := q) ⟨by omega, by omega⟩]
      exact ⟨_, _, rfl, by omega, by omega, by omega⟩

theorem strong_f (m f : Int) (hm : In64 m) (hf : In64 f) : brake_strong.f m f = some (decide (9 * f ≤ 10 * m)) := by
  obtain ⟨a, b, e1, h1, h2, h3⟩ := divide_f m 9 hm (.inl rfl)
  obtain ⟨c, d, e2, h4, h5, h6⟩ := divide_f f 10 hf (.inr rfl)
  unfold brake_strong.f
  rw [e1, e2]
  simp only [Option.bind_some]
  by_cases g1 : a > c
  · rw [if_pos g1]; congr 1; symm; rw [decide_eq_true_eq]; omega
  · rw [if_neg g1]
    by_cases g2 : a = c
    · rw [if_pos g2, wrap_in (a := 10 * b) ⟨by omega, by omega⟩, wrap_in (a := 9 * d) ⟨by omega, by omega⟩]
      congr 1
      rw [decide_eq_decide]
      omega
    · rw [if_neg g2]; congr 1; symm; rw [decide_eq_false_iff_not]; omega

theorem valid_f (i k f s m t : Int) (hf : In64 f) (hm : In64 m) (ht : In64 t) : brake_Valid.f i k f s m t = some (validP f s m t) := by
  unfold brake_Valid.f validP
  by_cases g1 : s ≥ 0
  · rw [if_pos g1]
    by_cases g2 : t ≥ s
    · unfold In64 at ht
      rw [if_pos g2, wrap_in (a := t - s) ⟨by omega, by omega⟩]
      by_cases g3 : t - s < 604800
      · rw [if_pos g3, strong_f m f hm hf]
        simp only [Option.bind_some]
        congr 1
        rw [decide_eq_decide]
        omega
      · rw [if_neg g3]; congr 1; symm; rw [decide_eq_false_iff_not]; omega
    · rw [if_neg g2]; congr 1; symm; rw [decide_eq_false_iff_not]; omega
  · rw [if_neg g1]; congr 1; symm; rw [decide_eq_false_iff_not]; omega

theorem nine_f (n : Int) (hn : In64 n) : ∃ v, skiarearef15_nine.f n = some v ∧ ∀ m, v ≤ m ↔ 9 * n ≤ 10 * m := by
  unfold skiarearef15_nine.f
  have h1 := Int.mul_tdiv_add_tmod n 10
  have h2 := Int.tmod_lt_of_pos n (b := 10) (by omega)
  have h3 := Int.lt_tmod_of_pos n (b := 10) (by omega)
  generalize Int.tdiv n 10 = q at *
  generalize Int.tmod n 10 = r at *
  unfold In64 at hn
  rw [wrap_in (a := q) ⟨by omega, by omega⟩, wrap_in (a := 9 * q) ⟨by omega, by omega⟩, wrap_in (a := 9 * r) ⟨by omega, by omega⟩]
  by_cases hr : r > 0
  · rw [if_pos hr, wrap_in (a := 9 * r + 9) ⟨by omega, by omega⟩, Int.tdiv_eq_ediv_of_nonneg (by omega), wrap_in (a := (9 * r + 9) / 10) ⟨by omega, by omega⟩, wrap_in (a := 9 * q + (9 * r + 9) / 10) ⟨by omega, by omega⟩]
    exact ⟨_, rfl, fun m => by omega⟩
  · rw [if_neg hr]
    have e : Int.tdiv (9 * r) 10 = -((-(9 * r)) / 10) := by
      have h := Int.neg_tdiv (a := -(9 * r)) (b := 10)
      rw [Int.neg_neg] at h
      rw [h, Int.tdiv_eq_ediv_of_nonneg (by omega)]
    rw [e, wrap_in (a := -((-(9 * r)) / 10)) ⟨by omega, by omega⟩, wrap_in (a := 9 * q + -((-(9 * r)) / 10)) ⟨by omega, by omega⟩]
    exact ⟨_, rfl, fun m => by omega⟩

theorem refvalid_f (i k f s m t : Int) (hf : In64 f) (hm : In64 m) (ht : In64 t) : skiarearef15_Valid.f i k f s m t = some (validP f s m t) := by
  unfold skiarearef15_Valid.f validP
  by_cases g1 : s ≥ 0
  · rw [if_pos g1]
    by_cases g2 : t ≥ s
    · unfold In64 at ht
      rw [if_pos g2, wrap_in (a := t - s) ⟨by omega, by omega⟩]
      by_cases g3 : t - s < 604800
      · obtain ⟨v, hv, hiff⟩ := nine_f f hf
        rw [if_pos g3, hv]
        simp only [Option.bind_some]
        congr 1
        rw [decide_eq_decide]
        have := hiff m
        omega
      · rw [if_neg g3]; congr 1; symm; rw [decide_eq_false_iff_not]; omega
    · rw [if_neg g2]; congr 1; symm; rw [decide_eq_false_iff_not]; omega
  · rw [if_neg g1]; congr 1; symm; rw [decide_eq_false_iff_not]; omega

/-! ### Right -/
def okB (x : S32) : Bool := decide (1 ≤ x.f0 ∧ x.f0 ≤ 9999 ∧ (x.f1 = 0 ∨ x.f1 = 1) ∧ 1 ≤ x.f2 ∧ x.f2 ≤ 10000000 ∧ -1 ≤ x.f3 ∧ x.f3 ≤ 20000000 ∧ 0 ≤ x.f4 ∧ x.f4 ≤ 10000000 ∧ (x.f3 = -1 → x.f4 = 0))
def hasId (id : Int) (l : List S32) : Bool := l.any fun x => decide (x.f0 = id)
def rightGo : List S32 → List S32 → Int
  | _, [] => 0
  | seen, x :: xs => if okB x = true then (if hasId x.f0 seen = true then 7 else rightGo (seen ++ [x]) xs) else 2
def rightP (l : List S32) : Int := if 8 < l.length then 4 else rightGo [] l

theorem within_f (a lo hi : Int) : brake_within.f a lo hi = some (decide (lo ≤ a ∧ a ≤ hi)) := by
  unfold brake_within.f
  by_cases h : a ≥ lo
  · rw [if_pos h]; congr 1; rw [decide_eq_decide]; omega
  · rw [if_neg h]; congr 1; symm; rw [decide_eq_false_iff_not]; omega

theorem find_ge (id : Int) : ∀ (l : List S32) (s : Int), 0 ≤ s → (findGo id l s ≥ 0 ↔ hasId id l = true)
  | [], s, _ => by simp [findGo, hasId]
  | x :: xs, s, hs => by
    simp only [findGo, hasId, List.any_cons, Bool.or_eq_true, decide_eq_true_eq]
    by_cases h : x.f0 = id
    · rw [if_pos h]; simp [h, hs]
    · rw [if_neg h]
      have := find_ge id xs (s + 1) (by omega)
      simp only [hasId] at this
      rw [this]
      simp [h]

theorem take_rd (l : List S32) (i : Nat) (h : i < l.length) : l.take (i + 1) = l.take i ++ [rd_T32 l (i : Int)] := by
  rw [List.take_succ_eq_append_getElem h]
  unfold rd_T32
  simp [List.getD_eq_getElem?_getD, h]

theorem right_loop (l : List S32) (hl : l.length ≤ 8) (d : Nat) : ∀ (k i : Nat), i + d = l.length → 2 * d + 2 < k →
    brake_Right.l0 k l l (l.length : Int) (i : Int) = some (rightGo (l.take i) (l.drop i)) := by
  induction d with
  | zero =>
    intro k i hi hk
    obtain ⟨k, rfl⟩ : ∃ m, k = m + 2 := ⟨k - 2, by omega⟩
    simp only [brake_Right.l0]
    rw [if_neg (by omega), List.drop_eq_nil_of_le (by omega)]
    rfl
  | succ d ih =>
    intro k i hi hk
    obtain ⟨k, rfl⟩ : ∃ m, k = m + 2 := ⟨k - 2, by omega⟩
    have hd := drop_rd l i (by omega)
    have ht := take_rd l i (by omega)
    have h2 := ih k (i + 1) (by omega) (by omega)
    rw [ht] at h2
    rw [hd]
    obtain ⟨x, hx⟩ : ∃ x, x = rd_T32 l (i : Int) := ⟨_, rfl⟩
    rw [← hx] at h2 ⊢
    have tree : brake_Right.l0 (k + 2) l l (l.length : Int) (i : Int) = brake_Right.j1 (k + 1) l (i : Int) l (l.length : Int) (i : Int) (!okB x) x.f0 x.f1 x.f2 x.f3 x.f4 := by
      conv => lhs; unfold brake_Right.l0
      rw [if_pos (by omega), if_pos (by omega), if_pos (by omega), ← hx]
      simp only [within_f, Option.bind_some, decide_eq_true_eq]
      repeat' split
      all_goals (congr 1; unfold okB; first | (symm; simp only [Bool.not_eq_true', decide_eq_false_iff_not]; omega) | (symm; simp only [Bool.not_eq_false', decide_eq_true_eq]; omega) | (rw [Bool.eq_iff_iff]; simp only [bne_iff_ne, ne_eq, Bool.not_eq_true', decide_eq_false_iff_not]; omega))
    rw [tree]
    simp only [brake_Right.j1, rightGo]
    cases ho : okB x with
    | false => simp
    | true =>
      simp only [Bool.not_true, Bool.false_eq_true, if_false, if_true]
      rw [if_pos (by omega), if_pos (by omega)]
      unfold brake_find.f
      simp only [Option.bind_some, Int.toNat_natCast]
      have hg := find_ge x.f0 (l.take i) 0 (by omega)
      by_cases hh : hasId x.f0 (l.take i) = true
      · rw [if_pos hh, if_pos (hg.2 hh)]
      · rw [if_neg hh, if_neg (fun h => hh (hg.1 h)), wrap_small (by omega) (by omega)]
        simp only [Int.natCast_add, Int.cast_ofNat_Int] at h2
        exact h2

theorem right_f (l : List S32) (k : Nat) (hk : 20 < k) : brake_Right.f k l = some (rightP l) := by
  unfold brake_Right.f rightP
  by_cases h : 8 < l.length
  · rw [if_pos (by omega), if_pos h]
  · rw [if_neg (by omega), if_neg h]
    have := right_loop l (by omega) l.length k 0 (by omega) (by omega)
    simpa using this

theorem refright_inner (l : List S32) (i : Nat) (hi : i < l.length) (hl : l.length ≤ 8) (a b c d e : Int) (n : Nat) : ∀ (k j : Nat), j + n = i → n < k →
    skiarearef15_Right.l1 k l (i : Int) (j : Int) a b c d e = if hasId a ((l.take i).drop j) = true then some 7 else skiarearef15_Right.l0 (k - n - 1) l ((i + 1 : Nat) : Int) := by
  induction n with
  | zero =>
    intro k j hj hk
    obtain ⟨k, rfl⟩ : ∃ m, k = m + 1 := ⟨k - 1, by omega⟩
    simp only [skiarearef15_Right.l1]
    rw [if_neg (by omega), List.drop_eq_nil_of_le (by simp; omega), wrap_small (by omega) (by omega)]
    simp [hasId]
  | succ n ih =>
    intro k j hj hk
    obtain ⟨k, rfl⟩ : ∃ m, k = m + 1 := ⟨k - 1, by omega⟩
    simp only [skiarearef15_Right.l1]
    rw [if_pos (by omega), if_pos (by omega), if_pos (by omega)]
    have hd : (l.take i).drop j = rd_T32 l (j : Int) :: (l.take i).drop (j + 1) := by
      rw [List.drop_eq_getElem_cons (by simp; omega)]
      unfold rd_T32
      simp [List.getD_eq_getElem?_getD, show j < l.length by omega]
    rw [hd]
    have h2 := ih k (j + 1) (by omega) (by omega)
    simp only [Int.natCast_add, Int.cast_ofNat_Int] at h2
    simp only [hasId, List.any_cons, Bool.or_eq_true, decide_eq_true_eq] at h2 ⊢
    by_cases he : (rd_T32 l (j : Int)).f0 = a
    · rw [if_pos he, if_pos (.inl he)]
    · rw [if_neg he, wrap_small (by omega) (by omega), h2]
      simp only [he, false_or]
      rw [show k + 1 - (n + 1) - 1 = k - n - 1 by omega]
      rfl

theorem ref_tree {α : Type} (J : Bool → α) (x : S32) :
    (if x.f0 < 1 then J true else if x.f0 > 9999 then J true else if x.f1 = 0 then (if x.f2 < 1 then J true else if x.f2 > 10000000 then J true else if x.f3 < -1 then J true else if x.f3 > 20000000 then J true else if x.f4 < 0 then J true else if x.f4 > 10000000 then J true else if x.f3 = -1 then J (x.f4 != 0) else J false) else if x.f1 = 1 then (if x.f2 < 1 then J true else if x.f2 > 10000000 then J true else if x.f3 < -1 then J true else if x.f3 > 20000000 then J true else if x.f4 < 0 then J true else if x.f4 > 10000000 then J true else if x.f3 = -1 then J (x.f4 != 0) else J false) else J true) = J (!okB x) := by
  repeat' split
  all_goals (congr 1; unfold okB; first | (symm; simp only [Bool.not_eq_true', decide_eq_false_iff_not]; omega) | (symm; simp only [Bool.not_eq_false', decide_eq_true_eq]; omega) | (rw [Bool.eq_iff_iff]; simp only [bne_iff_ne, ne_eq, Bool.not_eq_true', decide_eq_false_iff_not]; omega))

theorem refright_loop (l : List S32) (hl : l.length ≤ 8) (d : Nat) : ∀ (k i : Nat), i + d = l.length → 12 * d + 2 < k →
    skiarearef15_Right.l0 k l (i : Int) = some (rightGo (l.take i) (l.drop i)) := by
  induction d with
  | zero =>
    intro k i hi hk
    obtain ⟨k, rfl⟩ : ∃ m, k = m + 2 := ⟨k - 2, by omega⟩
    simp only [skiarearef15_Right.l0]
    rw [if_neg (by omega), List.drop_eq_nil_of_le (by omega)]
    rfl
  | succ d ih =>
    intro k i hi hk
    obtain ⟨k, rfl⟩ : ∃ m, k = m + 2 := ⟨k - 2, by omega⟩
    have hd := drop_rd l i (by omega)
    have ht := take_rd l i (by omega)
    rw [hd]
    obtain ⟨x, hx⟩ : ∃ x, x = rd_T32 l (i : Int) := ⟨_, rfl⟩
    rw [← hx] at ht ⊢
    have tree : skiarearef15_Right.l0 (k + 2) l (i : Int) = skiarearef15_Right.j1 (k + 1) l (i : Int) (!okB x) x.f0 x.f1 x.f2 x.f3 x.f4 := by
      conv => lhs; unfold skiarearef15_Right.l0
      rw [if_pos (by omega), if_pos (by omega), ← hx]
      exact ref_tree (fun b => skiarearef15_Right.j1 (k + 1) l (i : Int) b x.f0 x.f1 x.f2 x.f3 x.f4) x
    rw [tree]
    simp only [skiarearef15_Right.j1, rightGo]
    cases ho : okB x with
    | false => simp
    | true =>
      simp only [Bool.not_true, Bool.false_eq_true, if_false, if_true]
      have h1 := refright_inner l i (by omega) hl x.f0 x.f1 x.f2 x.f3 x.f4 i k 0 (by omega) (by omega)
      have h1' : skiarearef15_Right.l1 k l (i : Int) 0 x.f0 x.f1 x.f2 x.f3 x.f4 = _ := h1
      rw [h1', List.drop_zero]
      by_cases hh : hasId x.f0 (l.take i) = true
      · rw [if_pos hh, if_pos hh]
      · rw [if_neg hh, if_neg hh, ih (k - i - 1) (i + 1) (by omega) (by omega), ht]

theorem refright_f (l : List S32) (k : Nat) (hk : 200 < k) : skiarearef15_Right.f k l = some (rightP l) := by
  unfold skiarearef15_Right.f rightP
  by_cases h : 8 < l.length
  · rw [if_pos (by omega), if_pos h]
  · rw [if_neg (by omega), if_neg h]
    have := refright_loop l (by omega) l.length k 0 (by omega) (by omega)
    simpa using this

end Go.Proofs.Ytkkkfjbcefpjpaa.A

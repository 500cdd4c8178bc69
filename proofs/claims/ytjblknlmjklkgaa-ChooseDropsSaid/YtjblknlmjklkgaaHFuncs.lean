/- The printed functions of layer 7 against the theory of choices: what Right, Need, Fits, Less, Same answer. -/
import Derived.Test.YtjblknlmjklkgaaHTheory
import Derived.Test.YtjblknlmjklkgaaHRight
import Derived.Test.YtjblknlmjklkgaaHVisit
import Derived.Test.YtjblknlmjklkgaaAx2
import Derived.Test.YtjblknlmjklkgaaAx3
import Derived.Test.YtjblknlmjklkgaaAx4
import Derived.Test.YtjblknlmjklkgaaAx5
namespace Go.Proofs.Ytjblknlmjklkgaa.A
open Go.RowKit Go.Proofs.YtjblknlmjklkgaaW.PrintWords Go.Proofs.YtjblknlmjklkgaaW.PrintLast Go.Proofs.YtjblknlmjklkgaaW.PrintMore
set_option linter.unusedVariables false
set_option linter.unusedSimpArgs false

theorem in_f (x : Int) : skiarearef07_in.f x = some (decide (0 ≤ x ∧ x ≤ 1000000000)) := by
  unfold skiarearef07_in.f
  by_cases h : x ≥ 0
  · rw [if_pos h]; congr 1; simp; intro _; omega
  · rw [if_neg h]; congr 1; simp; omega

theorem refright_loop (l : List S42) (hl : l.length ≤ 12) (d : Nat) : ∀ (k i : Nat), i + d = l.length → d < k →
    skiarearef07_Right.l0 k l (i : Int) = some (if (l.drop i).all okItem then 0 else 2) := by
  induction d with
  | zero =>
    intro k i hi hk
    obtain ⟨k, rfl⟩ : ∃ m, k = m + 1 := ⟨k - 1, by omega⟩
    simp only [skiarearef07_Right.l0]
    rw [if_neg (by omega), List.drop_eq_nil_of_le (by omega)]
    rfl
  | succ d ih =>
    intro k i hi hk
    obtain ⟨k, rfl⟩ : ∃ m, k = m + 1 := ⟨k - 1, by omega⟩
    simp only [skiarearef07_Right.l0]
    rw [if_pos (by omega), if_pos (by omega), wrap_small (by omega) (by omega), drop_rd l i (by omega)]
    obtain ⟨x, hx⟩ : ∃ x, x = rd_T42 l (i : Int) := ⟨_, rfl⟩
    rw [← hx, in_f, in_f, in_f]
    have h2 := ih k (i + 1) (by omega) (by omega)
    simp only [Int.natCast_add, Int.cast_ofNat_Int] at h2
    rw [h2, List.all_cons]
    simp only [Option.bind_some, decide_eq_true_eq]
    cases hb : okItem x with
    | true =>
      rw [Bool.true_and]
      unfold okItem at hb
      simp only [decide_eq_true_eq] at hb
      rw [if_pos (by omega), if_pos (by omega), if_pos (by omega)]
    | false =>
      rw [Bool.false_and]
      unfold okItem at hb
      simp only [decide_eq_false_iff_not] at hb
      by_cases g0 : 0 ≤ x.f0 ∧ x.f0 ≤ 1000000000
      · rw [if_pos g0]
        by_cases g1 : 0 ≤ x.f1 ∧ x.f1 ≤ 1000000000
        · rw [if_pos g1, if_neg (by omega)]
          rfl
        · rw [if_neg g1]
          rfl
      · rw [if_neg g0]
        rfl

theorem refright_f (l : List S42) (k : Nat) (hk : 12 < k) : skiarearef07_Right.f k l = some (rightP l) := by
  unfold skiarearef07_Right.f rightP
  by_cases h : 12 < l.length
  · rw [if_pos (by omega), if_pos h]
  · rw [if_neg (by omega), if_neg h]
    have := refright_loop l (by omega) l.length k 0 (by omega) (by omega)
    simpa using this

/-- Items that Right accepts. -/
theorem items_of' {l : List S42} (h : rightP l = 0) : Items l := by
  unfold rightP at h
  by_cases h1 : 12 < l.length
  · rw [if_pos h1] at h; omega
  · rw [if_neg h1] at h
    by_cases h2 : l.all okItem = true
    · refine ⟨by omega, fun i => ?_⟩
      by_cases hi : i.toNat < l.length
      · have e : rd_T42 l i = l[i.toNat] := by unfold rd_T42; simp [List.getD_eq_getElem?_getD, hi]
        rw [e]
        have := List.all_eq_true.1 h2 _ (List.getElem_mem hi)
        unfold okItem at this
        simp only [decide_eq_true_eq] at this
        omega
      · have e : rd_T42 l i = z42 := by unfold rd_T42; simp [List.getD_eq_getElem?_getD, List.getElem?_eq_none (Nat.le_of_not_lt hi)]
        rw [e]
        simp [z42]
    · rw [if_neg h2] at h; omega
theorem Items.pos {l : List S42} (h : Items l) : Pos l := fun i => by have := h.2 i; omega

theorem drop_rdi (l : List Int) (i : Nat) (h : i < l.length) : l.drop i = rd l (i : Int) :: l.drop (i + 1) := by
  rw [List.drop_eq_getElem_cons h]
  unfold rd
  simp [List.getD_eq_getElem?_getD, h]

/-- What Need answers, from a place on. -/
def needR (l : List S42) (lo : Int) (cs : List Int) (a b v : Int) : Int × Int × Int × Bool :=
  if Inc lo l.length cs then (a + sumF S42.f0 l cs, b + sumF S42.f1 l cs, v + sumF S42.f2 l cs, true) else (0, 0, 0, false)
theorem needR_cons {l : List S42} {lo c : Int} {cs : List Int} {a b v : Int} (h0 : lo ≤ c) (h1 : c < l.length) :
    needR l lo (c :: cs) a b v = needR l (c + 1) cs (a + (rd_T42 l c).f0) (b + (rd_T42 l c).f1) (v + (rd_T42 l c).f2) := by
  unfold needR
  by_cases h : Inc (c + 1) l.length cs
  · rw [if_pos (by simp only [Inc]; exact ⟨h0, h1, h⟩), if_pos h]
    simp only [sumF, Int.add_assoc]
  · rw [if_neg (by simp only [Inc]; exact fun hh => h hh.2.2), if_neg h]
theorem needR_not {l : List S42} {lo c : Int} {cs : List Int} {a b v : Int} (h : ¬ (lo ≤ c ∧ c < l.length)) : needR l lo (c :: cs) a b v = (0, 0, 0, false) := by
  unfold needR
  rw [if_neg (by simp only [Inc]; exact fun hh => h ⟨hh.1, hh.2.1⟩)]

theorem wrap_sum {a x : Int} (h0 : 0 ≤ a) (h1 : a ≤ 1000000000000) (h2 : 0 ≤ x) (h3 : x ≤ 1000000000) : wrap64 (a + x) = a + x := by
  unfold wrap64
  omega
theorem wrap_pred {i : Int} (h0 : 0 < i) (h1 : i ≤ 1000000000000) : wrap64 (i - 1) = i - 1 := by
  unfold wrap64
  omega

/-- From where on the next index must lie. -/
def lowest (cs : List Int) (i : Nat) : Int := if i = 0 then 0 else rd cs ((i : Int) - 1) + 1

theorem need_loop {l : List S42} (hI : Items l) (cs : List Int) (hc : cs.length ≤ 40) (d : Nat) : ∀ (k i : Nat) (a b v : Int), i + d = cs.length → d < k → -1 ≤ lowest cs i - 1 → 0 ≤ a → a ≤ i * 1000000000 → 0 ≤ b → b ≤ i * 1000000000 → 0 ≤ v → v ≤ i * 1000000000 →
    choose_Need.l0 k l cs cs (cs.length : Int) (i : Int) a b v = some (needR l (lowest cs i) (cs.drop i) a b v) := by
  induction d with
  | zero =>
    intro k i a b v hi hk _ _ _ _ _ _ _
    obtain ⟨k, rfl⟩ : ∃ m, k = m + 1 := ⟨k - 1, by omega⟩
    simp only [choose_Need.l0]
    rw [if_neg (by omega), List.drop_eq_nil_of_le (by omega)]
    unfold needR
    rw [if_pos (by simp [Inc])]
    simp [sumF]
  | succ d ih =>
    intro k i a b v hi hk hlo a0 a1 b0 b1 v0 v1
    obtain ⟨k, rfl⟩ : ∃ m, k = m + 1 := ⟨k - 1, by omega⟩
    simp only [choose_Need.l0]
    rw [if_pos (by omega), if_pos (by omega), if_pos (by omega), drop_rdi cs i (by omega)]
    obtain ⟨c, hcc⟩ : ∃ c, c = rd cs (i : Int) := ⟨_, rfl⟩
    have hlow : lowest cs (i + 1) = c + 1 := by
      unfold lowest
      rw [if_neg (by omega), hcc]
      congr 2
      omega
    rw [← hcc]
    by_cases g0 : c < 0
    · rw [if_pos g0, needR_not (by omega)]
    · rw [if_neg g0]
      by_cases g1 : c ≥ (l.length : Int)
      · rw [if_pos g1, needR_not (by omega)]
      · rw [if_neg g1]
        have hx := hI.2 c
        have next : choose_Need.l0 k l cs cs (cs.length : Int) (wrap64 ((i : Int) + 1)) (wrap64 (a + (rd_T42 l c).f0)) (wrap64 (b + (rd_T42 l c).f1)) (wrap64 (v + (rd_T42 l c).f2)) =
            some (needR l (c + 1) (cs.drop (i + 1)) (a + (rd_T42 l c).f0) (b + (rd_T42 l c).f1) (v + (rd_T42 l c).f2)) := by
          rw [wrap_small (by omega) (by omega), wrap_sum a0 (by omega) (by omega) (by omega), wrap_sum b0 (by omega) (by omega) (by omega), wrap_sum v0 (by omega) (by omega) (by omega)]
          have h2 := ih k (i + 1) (a + (rd_T42 l c).f0) (b + (rd_T42 l c).f1) (v + (rd_T42 l c).f2) (by omega) (by omega) (by rw [hlow]; omega) (by omega) (by omega) (by omega) (by omega) (by omega) (by omega)
          rw [hlow] at h2
          simp only [Int.natCast_add, Int.cast_ofNat_Int] at h2
          exact h2
        by_cases g2 : (i : Int) > 0
        · have hl : lowest cs i = rd cs ((i : Int) - 1) + 1 := by unfold lowest; rw [if_neg (by omega)]
          rw [if_pos g2, wrap_pred g2 (by omega), if_pos (by omega), if_pos (by omega)]
          by_cases g3 : c ≤ rd cs ((i : Int) - 1)
          · rw [if_pos g3, needR_not (by omega)]
          · rw [if_neg g3, if_pos (by omega), if_pos (by omega), next, needR_cons (by omega) (by omega)]
        · have hl : lowest cs i = 0 := by unfold lowest; rw [if_pos (by omega)]
          rw [if_neg g2, if_pos (by omega), if_pos (by omega), next, needR_cons (by omega) (by omega)]

theorem need_f {l : List S42} (hI : Items l) (cs : List Int) (hc : cs.length ≤ 40) (k : Nat) (hk : 40 < k) : choose_Need.f k l cs = some (needR l 0 cs 0 0 0) := by
  unfold choose_Need.f
  have := need_loop hI cs hc cs.length k 0 0 0 0 (by omega) (by omega) (by simp [lowest]) (by omega) (by omega) (by omega) (by omega) (by omega) (by omega)
  simpa [lowest] using this

theorem refneed_loop {l : List S42} (hI : Items l) (cs : List Int) (hc : cs.length ≤ 40) (d : Nat) : ∀ (k i : Nat) (a b v : Int), i + d = cs.length → d < k → -1 ≤ lowest cs i - 1 → 0 ≤ a → a ≤ i * 1000000000 → 0 ≤ b → b ≤ i * 1000000000 → 0 ≤ v → v ≤ i * 1000000000 →
    skiarearef07_Need.l0 k l cs a b v (i : Int) = some (needR l (lowest cs i) (cs.drop i) a b v) := by
  induction d with
  | zero =>
    intro k i a b v hi hk _ _ _ _ _ _ _
    obtain ⟨k, rfl⟩ : ∃ m, k = m + 1 := ⟨k - 1, by omega⟩
    simp only [skiarearef07_Need.l0]
    rw [if_neg (by omega), List.drop_eq_nil_of_le (by omega)]
    unfold needR
    rw [if_pos (by simp [Inc])]
    simp [sumF]
  | succ d ih =>
    intro k i a b v hi hk hlo a0 a1 b0 b1 v0 v1
    obtain ⟨k, rfl⟩ : ∃ m, k = m + 1 := ⟨k - 1, by omega⟩
    simp only [skiarearef07_Need.l0]
    rw [if_pos (by omega), if_pos (by omega), drop_rdi cs i (by omega)]
    obtain ⟨c, hcc⟩ : ∃ c, c = rd cs (i : Int) := ⟨_, rfl⟩
    have hlow : lowest cs (i + 1) = c + 1 := by
      unfold lowest
      rw [if_neg (by omega), hcc]
      congr 2
      omega
    rw [← hcc]
    by_cases g0 : c < 0
    · rw [if_pos g0, needR_not (by omega)]
    · rw [if_neg g0]
      by_cases g1 : c ≥ (l.length : Int)
      · rw [if_pos g1, needR_not (by omega)]
      · rw [if_neg g1]
        have hx := hI.2 c
        have next : skiarearef07_Need.l0 k l cs (wrap64 (a + (rd_T42 l c).f0)) (wrap64 (b + (rd_T42 l c).f1)) (wrap64 (v + (rd_T42 l c).f2)) (wrap64 ((i : Int) + 1)) =
            some (needR l (c + 1) (cs.drop (i + 1)) (a + (rd_T42 l c).f0) (b + (rd_T42 l c).f1) (v + (rd_T42 l c).f2)) := by
          rw [wrap_small (by omega) (by omega), wrap_sum a0 (by omega) (by omega) (by omega), wrap_sum b0 (by omega) (by omega) (by omega), wrap_sum v0 (by omega) (by omega) (by omega)]
          have h2 := ih k (i + 1) (a + (rd_T42 l c).f0) (b + (rd_T42 l c).f1) (v + (rd_T42 l c).f2) (by omega) (by omega) (by rw [hlow]; omega) (by omega) (by omega) (by omega) (by omega) (by omega) (by omega)
          rw [hlow] at h2
          simp only [Int.natCast_add, Int.cast_ofNat_Int] at h2
          exact h2
        by_cases g2 : (i : Int) > 0
        · have hl : lowest cs i = rd cs ((i : Int) - 1) + 1 := by unfold lowest; rw [if_neg (by omega)]
          rw [if_pos g2, wrap_pred g2 (by omega), if_pos (by omega), if_pos (by omega)]
          by_cases g3 : c ≤ rd cs ((i : Int) - 1)
          · rw [if_pos g3, needR_not (by omega)]
          · rw [if_neg g3, if_pos (by omega), if_pos (by omega), next, needR_cons (by omega) (by omega)]
        · have hl : lowest cs i = 0 := by unfold lowest; rw [if_pos (by omega)]
          rw [if_neg g2, if_pos (by omega), if_pos (by omega), next, needR_cons (by omega) (by omega)]

theorem refneed_f {l : List S42} (hI : Items l) (cs : List Int) (hc : cs.length ≤ 40) (k : Nat) (hk : 40 < k) : skiarearef07_Need.f k l cs = some (needR l 0 cs 0 0 0) := by
  unfold skiarearef07_Need.f
  have := refneed_loop hI cs hc cs.length k 0 0 0 0 (by omega) (by omega) (by simp [lowest]) (by omega) (by omega) (by omega) (by omega) (by omega) (by omega)
  simpa [lowest] using this

theorem fitsB (l : List S42) (cs : List Int) (a b : Int) :
    ((some (needR l 0 cs 0 0 0)).bind fun (bt : Int × Int × Int × Bool) => (if bt.2.2.2 = true then (if bt.1 ≤ a then (some (decide (bt.2.1 ≤ b))) else (some false)) else (some false))) = some (decide (Fit l a b cs)) := by
  simp only [Option.bind_some]
  unfold needR Fit
  by_cases h : Inc 0 l.length cs
  · rw [if_pos h]
    simp only [if_true, Int.zero_add]
    by_cases h2 : sumF S42.f0 l cs ≤ a
    · rw [if_pos h2]
      congr 1
      simp [h, h2]
    · rw [if_neg h2]
      congr 1
      simp [h2]
  · rw [if_neg h]
    simp [h]
theorem fits_f {l : List S42} (hI : Items l) (cs : List Int) (a b : Int) (hc : cs.length ≤ 40) (k : Nat) (hk : 40 < k) : choose_Fits.f k l cs a b = some (decide (Fit l a b cs)) := by
  unfold choose_Fits.f
  rw [need_f hI cs hc k hk]
  exact fitsB l cs a b
theorem reffits_f {l : List S42} (hI : Items l) (cs : List Int) (a b : Int) (hc : cs.length ≤ 40) (k : Nat) (hk : 40 < k) : skiarearef07_Fits.f k l cs a b = some (decide (Fit l a b cs)) := by
  unfold skiarearef07_Fits.f
  rw [refneed_f hI cs hc k hk]
  exact fitsB l cs a b

theorem less_loop (xs ys : List Int) (hx : xs.length ≤ 1000000) (d : Nat) : ∀ (k i : Nat), i + d = xs.length → 2 * d + 2 < k →
    skiarearef07_Less.l0 k xs ys (i : Int) = some (lex (xs.drop i) (ys.drop i)) := by
  induction d with
  | zero =>
    intro k i hi hk
    obtain ⟨k, rfl⟩ : ∃ m, k = m + 2 := ⟨k - 2, by omega⟩
    simp only [skiarearef07_Less.l0]
    rw [if_neg (by omega)]
    simp only [skiarearef07_Less.j1]
    rw [if_neg (by simp), List.drop_eq_nil_of_le (by omega)]
    congr 1
    rcases Nat.lt_or_ge i ys.length with h | h
    · rw [drop_rdi ys i h]
      simp [lex]
      omega
    · rw [List.drop_eq_nil_of_le h]
      simp [lex]
      omega
  | succ d ih =>
    intro k i hi hk
    obtain ⟨k, rfl⟩ : ∃ m, k = m + 2 := ⟨k - 2, by omega⟩
    simp only [skiarearef07_Less.l0]
    rw [if_pos (by omega)]
    simp only [skiarearef07_Less.j1]
    rw [drop_rdi xs i (by omega)]
    rcases Nat.lt_or_ge i ys.length with h | h
    · rw [if_pos (by simp; omega), if_pos (by omega), if_pos (by omega), if_pos (by omega), drop_rdi ys i h]
      simp only [lex]
      by_cases e : rd xs (i : Int) = rd ys (i : Int)
      · rw [if_pos e, if_pos e, wrap_small (by omega) (by omega)]
        have h2 := ih k (i + 1) (by omega) (by omega)
        simp only [Int.natCast_add, Int.cast_ofNat_Int] at h2
        exact h2
      · rw [if_neg e, if_neg e]
    · rw [if_neg (by simp; omega), List.drop_eq_nil_of_le h]
      simp [lex]
      omega

theorem less_f (xs ys : List Int) (hx : xs.length ≤ 1000000) (k : Nat) (hk : 2 * xs.length + 2 < k) : skiarearef07_Less.f k xs ys = some (lex xs ys) := by
  unfold skiarearef07_Less.f
  have := less_loop xs ys hx xs.length k 0 (by omega) hk
  simpa using this

theorem same_f (xs : List Int) (hx : xs.length ≤ 1000000) (k : Nat) (hk : 2 * xs.length + 2 < k) : skiarearef07_Same.f k xs xs = some true := by
  unfold skiarearef07_Same.f
  rw [less_f xs xs hx k hk]
  simp [lex_irr]

theorem Inc.len {lo hi : Int} {cs : List Int} (h : Inc lo hi cs) (hl : lo ≤ hi) : (cs.length : Int) ≤ hi - lo := by
  induction cs generalizing lo with
  | nil => simp; omega
  | cons c cs ih =>
    obtain ⟨h1, h2, h3⟩ := h
    have := ih h3 (by omega)
    simp only [List.length_cons, Int.natCast_add, Int.cast_ofNat_Int]
    omega

end Go.Proofs.Ytjblknlmjklkgaa.A

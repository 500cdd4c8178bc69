/- The reference's Best against the theory of choices: it examines all choices. -/
import Derived.Test.YtjblknlmjklkgaaHFuncs
import Derived.Test.YtjblknlmjklkgaaAx6
namespace Go.Proofs.Ytjblknlmjklkgaa.A
open Go.RowKit Go.Proofs.YtjblknlmjklkgaaW.PrintWords
set_option linter.unusedVariables false
set_option linter.unusedSimpArgs false

/-- The places of the bits of n, from i on. -/
def bits : Nat → Int → Nat → List Int
  | 0, _, _ => []
  | d + 1, i, n => if n % 2 = 1 then i :: bits d (i + 1) (n / 2) else bits d (i + 1) (n / 2)
theorem bits_zero (d : Nat) : ∀ i, bits d i 0 = [] := by
  induction d with
  | zero => intro i; rfl
  | succ d ih => intro i; simp [bits, ih]
theorem Inc.mono_lo {lo lo' hi : Int} {s : List Int} (h : Inc lo hi s) (hl : lo' ≤ lo) : Inc lo' hi s := by
  cases s with
  | nil => trivial
  | cons c cs => exact ⟨by have := h.1; omega, h.2.1, h.2.2⟩
theorem bits_inc (d : Nat) : ∀ (i : Int) (n : Nat), Inc i (i + d) (bits d i n) := by
  induction d with
  | zero => intros; trivial
  | succ d ih =>
    intro i n
    have h := ih (i + 1) (n / 2)
    have e : i + 1 + (d : Int) = i + ((d + 1 : Nat) : Int) := by omega
    rw [e] at h
    simp only [bits]
    split
    · exact ⟨by omega, by omega, h⟩
    · exact h.mono_lo (by omega)
theorem bits_all (d : Nat) : ∀ (i : Int) (s : List Int), Inc i (i + d) s → ∃ n, n < 2 ^ d ∧ bits d i n = s := by
  induction d with
  | zero =>
    intro i s h
    cases s with
    | nil => exact ⟨0, by simp, rfl⟩
    | cons c cs => simp only [Inc] at h; omega
  | succ d ih =>
    intro i s h
    have e : i + ((d + 1 : Nat) : Int) = i + 1 + (d : Int) := by omega
    rw [e] at h
    cases s with
    | nil => exact ⟨0, Nat.pos_of_ne_zero (by simp), bits_zero _ _⟩
    | cons c cs =>
      by_cases hc : c = i
      · subst hc
        obtain ⟨n, hn, hb⟩ := ih (c + 1) cs h.2.2
        refine ⟨2 * n + 1, by rw [Nat.pow_succ]; omega, ?_⟩
        simp only [bits]
        rw [if_pos (by omega), show (2 * n + 1) / 2 = n by omega, hb]
      · obtain ⟨n, hn, hb⟩ := ih (i + 1) (c :: cs) ⟨by have := h.1; omega, h.2.1, h.2.2⟩
        refine ⟨2 * n, by rw [Nat.pow_succ]; omega, ?_⟩
        simp only [bits]
        rw [if_neg (by omega), show (2 * n) / 2 = n by omega, hb]

theorem subset_loop (d : Nat) : ∀ (k n : Nat) (out : List Int) (i : Int), n < 2 ^ d → d < k → 0 ≤ i → i + d ≤ 1000 → out.length + d ≤ 1000 → n ≤ 1000000 →
    skiarearef07_subset.l0 k (n : Int) out i = some (out ++ bits d i n) := by
  induction d with
  | zero =>
    intro k n out i hn hk _ _ _ _
    obtain ⟨k, rfl⟩ : ∃ m, k = m + 1 := ⟨k - 1, by omega⟩
    simp only [skiarearef07_subset.l0]
    rw [if_neg (by omega)]
    simp [bits]
  | succ d ih =>
    intro k n out i hn hk h0 h1 h2 h3
    obtain ⟨k, rfl⟩ : ∃ m, k = m + 1 := ⟨k - 1, by omega⟩
    simp only [skiarearef07_subset.l0]
    by_cases hz : n = 0
    · subst hz
      rw [if_neg (by omega), bits_zero]
      simp
    · rw [if_pos (by omega)]
      have e1 : Int.tmod (n : Int) 2 = ((n % 2 : Nat) : Int) := by rw [Int.tmod_eq_emod_of_nonneg (by omega)]; omega
      have e2 : wrap64 (Int.tdiv (n : Int) 2) = ((n / 2 : Nat) : Int) := by
        rw [Int.tdiv_eq_ediv_of_nonneg (by omega)]
        unfold wrap64
        omega
      rw [Nat.pow_succ] at hn
      rw [e1, e2, wrap_small h0 (by omega)]
      simp only [bits]
      by_cases hb : n % 2 = 1
      · rw [if_pos (by omega), if_pos hb, if_pos (by omega), ih k (n / 2) (out ++ [i]) (i + 1) (by omega) (by omega) (by omega) (by omega) (by simp; omega) (by omega)]
        simp
      · rw [if_neg (by omega), if_neg hb, ih k (n / 2) out (i + 1) (by omega) (by omega) (by omega) (by omega) (by omega) (by omega)]

theorem subset_f (d n k : Nat) (hn : n < 2 ^ d) (hd : d ≤ 12) (hk : 12 < k) : skiarearef07_subset.f k (n : Int) = some (bits d 0 n) := by
  unfold skiarearef07_subset.f
  have h12 : 2 ^ d ≤ 2 ^ 12 := Nat.pow_le_pow_right (by omega) hd
  have := subset_loop d k n [] 0 hn (by omega) (by omega) (by omega) (by simp; omega) (by omega)
  simpa using this

/-- What holds when the choices before n have been examined. -/
def Inv (l : List S42) (a b : Int) (n : Nat) (best : List Int) (most : Int) (found : Bool) : Prop :=
  if found = true then Fit l a b best ∧ sumF S42.f2 l best = most ∧ ∀ m, m < n → Fit l a b (bits l.length 0 m) → sumF S42.f2 l (bits l.length 0 m) < most ∨ (sumF S42.f2 l (bits l.length 0 m) = most ∧ lex (bits l.length 0 m) best = false)
  else best = [] ∧ ∀ m, m < n → ¬ Fit l a b (bits l.length 0 m)

theorem ref_loop {l : List S42} (hI : Items l) (a b : Int) (d : Nat) : ∀ (k n : Nat) (best : List Int) (most : Int) (found : Bool), n + d = 2 ^ l.length → d + 100 < k → Inv l a b n best most found →
    ∃ best' most' found', skiarearef07_Best.l1 k l a b ((2 ^ l.length : Nat) : Int) best most found (n : Int) = some (best', 0) ∧ Inv l a b (2 ^ l.length) best' most' found' := by
  have h12 : 2 ^ l.length ≤ 2 ^ 12 := Nat.pow_le_pow_right (by omega) hI.1
  induction d with
  | zero =>
    intro k n best most found hn hk hi
    obtain ⟨k, rfl⟩ : ∃ m, k = m + 1 := ⟨k - 1, by omega⟩
    simp only [skiarearef07_Best.l1]
    rw [if_neg (by omega)]
    obtain rfl : n = 2 ^ l.length := by omega
    exact ⟨best, most, found, rfl, hi⟩
  | succ d ih =>
    intro k n best most found hn hk hi
    obtain ⟨k, rfl⟩ : ∃ m, k = m + 1 := ⟨k - 1, by omega⟩
    simp only [skiarearef07_Best.l1]
    have hlt : n < 2 ^ l.length := by omega
    rw [if_pos (by omega), subset_f l.length n k hlt hI.1 (by omega)]
    simp only [Option.bind_some]
    obtain ⟨s, hs⟩ : ∃ s, s = bits l.length 0 n := ⟨_, rfl⟩
    rw [← hs]
    have hinc : Inc 0 l.length s := by rw [hs]; have := bits_inc l.length 0 n; simpa using this
    have hlen : s.length ≤ 12 := by have h1 := hinc.len (by omega); have h2 := hI.1; omega
    rw [reffits_f hI s a b (by omega) k (by omega)]
    simp only [Option.bind_some]
    have hw : wrap64 ((n : Int) + 1) = ((n + 1 : Nat) : Int) := by rw [wrap_small (by omega) (by omega)]; rfl
    rw [hw]
    have step : ∀ {m}, m < n + 1 → m < n ∨ m = n := fun h => by omega
    by_cases hf : Fit l a b s
    · rw [if_pos (by simpa using hf), refneed_f hI s (by omega) k (by omega)]
      simp only [Option.bind_some]
      have hv : (needR l 0 s 0 0 0).2.2.1 = sumF S42.f2 l s := by unfold needR; rw [if_pos hinc]; simp
      rw [hv]
      have take : Inv l a b (n + 1) s (sumF S42.f2 l s) true → ∃ best' most' found', skiarearef07_Best.l1 k l a b ((2 ^ l.length : Nat) : Int) s (sumF S42.f2 l s) true ((n + 1 : Nat) : Int) = some (best', 0) ∧ Inv l a b (2 ^ l.length) best' most' found' :=
        fun h => ih k (n + 1) s _ true (by omega) (by omega) h
      cases found with
      | false =>
        rw [if_neg (by simp)]
        refine take ?_
        unfold Inv at hi ⊢
        rw [if_neg (by simp)] at hi
        rw [if_pos rfl]
        refine ⟨hf, rfl, fun m hm hfm => ?_⟩
        rcases step hm with h | h
        · exact absurd hfm (hi.2 m h)
        · subst h; rw [← hs]; exact .inr ⟨rfl, lex_irr _⟩
      | true =>
        rw [if_pos rfl]
        unfold Inv at hi
        rw [if_pos rfl] at hi
        obtain ⟨i1, i2, i3⟩ := hi
        by_cases hgt : sumF S42.f2 l s > most
        · rw [if_pos hgt]
          refine take ?_
          unfold Inv
          rw [if_pos rfl]
          refine ⟨hf, rfl, fun m hm hfm => ?_⟩
          rcases step hm with h | h
          · rcases i3 m h hfm with h2 | ⟨h2, _⟩ <;> (left; omega)
          · subst h; rw [← hs]; exact .inr ⟨rfl, lex_irr _⟩
        · rw [if_neg hgt]
          have stay : (sumF S42.f2 l s < most ∨ lex s best = false) → ∃ best' most' found', skiarearef07_Best.l1 k l a b ((2 ^ l.length : Nat) : Int) best most true ((n + 1 : Nat) : Int) = some (best', 0) ∧ Inv l a b (2 ^ l.length) best' most' found' := by
            intro hc
            refine ih k (n + 1) best most true (by omega) (by omega) ?_
            unfold Inv
            rw [if_pos rfl]
            refine ⟨i1, i2, fun m hm hfm => ?_⟩
            rcases step hm with h | h
            · exact i3 m h hfm
            · subst h
              rw [← hs]
              rcases hc with hc | hc
              · exact .inl hc
              · rcases Int.lt_or_eq_of_le (Int.not_lt.1 hgt) with h5 | h5
                · exact .inl h5
                · exact .inr ⟨h5, hc⟩
          by_cases heq : sumF S42.f2 l s = most
          · rw [if_pos heq, less_f s best (by omega) k (by omega)]
            simp only [Option.bind_some]
            by_cases hl : lex s best = true
            · rw [if_pos hl]
              refine take ?_
              unfold Inv
              rw [if_pos rfl]
              refine ⟨hf, rfl, fun m hm hfm => ?_⟩
              rcases step hm with h | h
              · rcases i3 m h hfm with h2 | ⟨h2, h3⟩
                · left; omega
                · right
                  refine ⟨by omega, ?_⟩
                  cases h4 : lex (bits l.length 0 m) s with
                  | false => rfl
                  | true => rw [lex_trans h4 hl] at h3; cases h3
              · subst h; rw [← hs]; exact .inr ⟨rfl, lex_irr _⟩
            · rw [if_neg hl]
              exact stay (.inr (by simpa using hl))
          · rw [if_neg heq]
            exact stay (.inl (by omega))
    · rw [if_neg (by simpa using hf)]
      refine ih k (n + 1) best most found (by omega) (by omega) ?_
      unfold Inv at hi ⊢
      cases found with
      | false =>
        rw [if_neg (by simp)] at hi ⊢
        refine ⟨hi.1, fun m hm => ?_⟩
        rcases step hm with h | h
        · exact hi.2 m h
        · subst h; rw [← hs]; exact hf
      | true =>
        rw [if_pos rfl] at hi ⊢
        refine ⟨hi.1, hi.2.1, fun m hm hfm => ?_⟩
        rcases step hm with h | h
        · exact hi.2.2 m h hfm
        · subst h; rw [← hs] at hfm; exact absurd hfm hf

theorem pow_loop {l : List S42} (hl : l.length ≤ 12) (a b : Int) (d : Nat) : ∀ (k i : Nat), i + d = l.length → d < k →
    skiarearef07_Best.l0 k l a b ((2 ^ i : Nat) : Int) (i : Int) = skiarearef07_Best.l1 (k - d - 1) l a b ((2 ^ l.length : Nat) : Int) [] 0 false 0 := by
  induction d with
  | zero =>
    intro k i hi hk
    obtain ⟨k, rfl⟩ : ∃ m, k = m + 1 := ⟨k - 1, by omega⟩
    simp only [skiarearef07_Best.l0]
    rw [if_neg (by omega)]
    obtain rfl : i = l.length := by omega
    rfl
  | succ d ih =>
    intro k i hi hk
    obtain ⟨k, rfl⟩ : ∃ m, k = m + 1 := ⟨k - 1, by omega⟩
    simp only [skiarearef07_Best.l0]
    have h12 : 2 ^ i ≤ 2 ^ 12 := Nat.pow_le_pow_right (by omega) (by omega)
    have e : wrap64 (2 * ((2 ^ i : Nat) : Int)) = ((2 ^ (i + 1) : Nat) : Int) := by
      rw [Nat.pow_succ]
      unfold wrap64
      omega
    rw [if_pos (by omega), e, show wrap64 ((i : Int) + 1) = ((i + 1 : Nat) : Int) by rw [wrap_small (by omega) (by omega)]; rfl, ih k (i + 1) (by omega) (by omega)]
    congr 1
    omega

theorem refbest_f (l : List S42) (a b : Int) (k : Nat) (hk : 5000 < k) : skiarearef07_Best.f k l a b = some (if rightP l = 0 then (bestP l a b, 0) else ([], rightP l)) := by
  unfold skiarearef07_Best.f
  rw [refright_f l k (by omega)]
  simp only [Option.bind_some]
  by_cases h : rightP l = 0
  · rw [if_pos h, if_pos h]
    have hI := items_of' h
    have h12 : 2 ^ l.length ≤ 2 ^ 12 := Nat.pow_le_pow_right (by omega) hI.1
    have e := pow_loop hI.1 a b l.length k 0 (by omega) (by have := hI.1; omega)
    simp only [Nat.pow_zero, Int.cast_ofNat_Int] at e
    have e' : skiarearef07_Best.l0 k l a b 1 0 = skiarearef07_Best.l1 (k - l.length - 1) l a b ((2 ^ l.length : Nat) : Int) [] 0 false 0 := e
    rw [e']
    have h0 : Inv l a b 0 [] 0 false := by unfold Inv; rw [if_neg (by simp)]; exact ⟨rfl, fun m hm => by omega⟩
    obtain ⟨best, most, found, hr, hi⟩ := ref_loop hI a b (2 ^ l.length) (k - l.length - 1) 0 [] 0 false (by omega) (by have := hI.1; omega) h0
    have hr' : skiarearef07_Best.l1 (k - l.length - 1) l a b ((2 ^ l.length : Nat) : Int) [] 0 false 0 = some (best, 0) := hr
    rw [hr']
    congr 2
    have all : ∀ s, Fit l a b s → ∃ m, m < 2 ^ l.length ∧ bits l.length 0 m = s := fun s hs => bits_all l.length 0 s (by simpa using hs.1)
    unfold Inv at hi
    by_cases hab : 0 ≤ a ∧ 0 ≤ b
    · cases found with
      | false =>
        rw [if_neg (by simp)] at hi
        have hnil : Fit l a b [] := ⟨trivial, hab.1, hab.2⟩
        obtain ⟨m, h1, h2⟩ := all [] hnil
        exact absurd (h2 ▸ hnil) (hi.2 m h1)
      | true =>
        rw [if_pos rfl] at hi
        refine IsBest.unique (l := l) (a := a) (b := b) ⟨hi.1, fun s hs => ?_⟩ (best_is hI.pos hab.1 hab.2)
        obtain ⟨m, h1, rfl⟩ := all s hs
        rw [hi.2.1]
        exact hi.2.2 m h1 hs
    · rw [best_none (by omega)]
      cases found with
      | false => rw [if_neg (by simp)] at hi; exact hi.1
      | true => rw [if_pos rfl] at hi; exact absurd hi.1 (fit_none hI.pos (by omega) _)
  · rw [if_neg h, if_neg h]

end Go.Proofs.Ytjblknlmjklkgaa.A

/- Choices of items, over lists and whole numbers: sums, the order of choices, the search's enumeration, the best choice. No program here. -/
import Derived.Test.YtjblknlmjklkgaaHPure
namespace Go.Proofs.Ytjblknlmjklkgaa.A
open Go.RowKit
set_option linter.unusedVariables false
set_option linter.unusedSimpArgs false

def sumF (f : S42 → Int) (l : List S42) : List Int → Int
  | [] => 0
  | c :: cs => f (rd_T42 l c) + sumF f l cs

/-- Strictly increasing, from lo on, below hi. -/
def Inc : Int → Int → List Int → Prop
  | _, _, [] => True
  | lo, hi, c :: cs => lo ≤ c ∧ c < hi ∧ Inc (c + 1) hi cs
instance Inc.dec : ∀ (lo hi : Int) (cs : List Int), Decidable (Inc lo hi cs)
  | _, _, [] => isTrue trivial
  | lo, hi, c :: cs => by
    unfold Inc
    have := Inc.dec (c + 1) hi cs
    infer_instance

/-- One choice precedes another one. -/
def lex : List Int → List Int → Bool
  | [], [] => false
  | [], _ :: _ => true
  | _ :: _, [] => false
  | x :: xs, y :: ys => if x = y then lex xs ys else decide (x < y)

theorem lex_irr : ∀ s, lex s s = false
  | [] => rfl
  | x :: xs => by simp [lex, lex_irr xs]
theorem lex_trans : ∀ {s t u}, lex s t = true → lex t u = true → lex s u = true
  | [], [], _, h, _ => by simp [lex] at h
  | [], _ :: _, [], _, h => by simp [lex] at h
  | [], _ :: _, _ :: _, _, _ => rfl
  | _ :: _, [], _, h, _ => by simp [lex] at h
  | _ :: _, _ :: _, [], _, h => by simp [lex] at h
  | x :: xs, y :: ys, z :: zs, h1, h2 => by
    simp only [lex] at *
    by_cases e1 : x = y
    · subst e1
      by_cases e2 : x = z
      · subst e2
        simp only [if_true] at *
        exact lex_trans h1 h2
      · rw [if_neg e2] at *
        exact h2
    · by_cases e2 : y = z
      · subst e2
        rw [if_neg e1] at *
        exact h1
      · rw [if_neg e1] at h1
        rw [if_neg e2] at h2
        simp at h1 h2
        rw [if_neg (by omega)]
        simp
        omega
theorem lex_asymm {s t} (h : lex s t = true) : lex t s = false := by
  cases h2 : lex t s with
  | false => rfl
  | true => have := lex_trans h h2; rw [lex_irr] at this; cases this
theorem lex_total : ∀ s t, lex s t = true ∨ s = t ∨ lex t s = true
  | [], [] => .inr (.inl rfl)
  | [], _ :: _ => .inl rfl
  | _ :: _, [] => .inr (.inr rfl)
  | x :: xs, y :: ys => by
    simp only [lex]
    by_cases e : x = y
    · subst e
      simp only [if_true]
      rcases lex_total xs ys with h | h | h
      · exact .inl h
      · exact .inr (.inl (by rw [h]))
      · exact .inr (.inr h)
    · rw [if_neg e, if_neg (fun h => e h.symm)]
      simp
      omega

/-- A choice of items of l that is within both limits. -/
def Fit (l : List S42) (a b : Int) (s : List Int) : Prop := Inc 0 l.length s ∧ sumF S42.f0 l s ≤ a ∧ sumF S42.f1 l s ≤ b
instance (l : List S42) (a b : Int) (s : List Int) : Decidable (Fit l a b s) := by unfold Fit; infer_instance
/-- The best choice. -/
def IsBest (l : List S42) (a b : Int) (c : List Int) : Prop :=
  Fit l a b c ∧ ∀ s, Fit l a b s → sumF S42.f2 l s < sumF S42.f2 l c ∨ (sumF S42.f2 l s = sumF S42.f2 l c ∧ lex s c = false)
theorem IsBest.unique {l : List S42} {a b : Int} {c d : List Int} (h : IsBest l a b c) (k : IsBest l a b d) : c = d := by
  rcases h.2 d k.1 with h1 | ⟨h1, h2⟩
  · rcases k.2 c h.1 with h3 | ⟨h3, _⟩ <;> omega
  · rcases k.2 c h.1 with h3 | ⟨_, h4⟩
    · omega
    · rcases lex_total c d with h5 | h5 | h5
      · rw [h5] at h4; cases h4
      · exact h5
      · rw [h5] at h2; cases h2

/-- No item needs less than nothing. -/
def Pos (l : List S42) : Prop := ∀ i : Int, 0 ≤ (rd_T42 l i).f0 ∧ 0 ≤ (rd_T42 l i).f1 ∧ 0 ≤ (rd_T42 l i).f2
theorem sumF_nonneg {f : S42 → Int} {l : List S42} (h : ∀ i : Int, 0 ≤ f (rd_T42 l i)) : ∀ s, 0 ≤ sumF f l s
  | [] => by simp [sumF]
  | c :: cs => by have := sumF_nonneg h cs; have := h c; simp only [sumF]; omega

/-- The search's choices, in its order: each begins at i or later; none is empty. -/
def enum (l : List S42) : Nat → Int → Int → Int → List (List Int)
  | 0, _, _, _ => []
  | n + 1, i, a, b =>
    (if (rd_T42 l i).f0 ≤ a ∧ (rd_T42 l i).f1 ≤ b then [i] :: (enum l n (i + 1) (a - (rd_T42 l i).f0) (b - (rd_T42 l i).f1)).map (fun s => i :: s) else []) ++ enum l n (i + 1) a b

theorem loop_enum (l : List S42) (n : Nat) : ∀ cs i a b worth st,
    loopP l n cs i a b worth st = (enum l n i a b).foldl (fun st s => upd (cs ++ s) (worth + sumF S42.f2 l s) st) st := by
  induction n with
  | zero => intros; rfl
  | succ n ih =>
    intro cs i a b worth st
    simp only [loopP, enum, List.foldl_append]
    rw [ih]
    congr 1
    by_cases h : (rd_T42 l i).f0 ≤ a ∧ (rd_T42 l i).f1 ≤ b
    · rw [if_pos h, if_pos h, ih, List.foldl_cons, List.foldl_map]
      simp only [sumF, Int.add_zero]
      congr 1
      funext st s
      rw [List.append_assoc, Int.add_assoc]
      rfl
    · rw [if_neg h, if_neg h]
      rfl

theorem mem_enum {l : List S42} (hp : Pos l) (n : Nat) : ∀ (i a b : Int) (s : List Int),
    s ∈ enum l n i a b ↔ s ≠ [] ∧ Inc i (i + n) s ∧ sumF S42.f0 l s ≤ a ∧ sumF S42.f1 l s ≤ b := by
  induction n with
  | zero =>
    intro i a b s
    simp only [enum, List.not_mem_nil, false_iff]
    rintro ⟨h1, h2, _⟩
    cases s with
    | nil => exact h1 rfl
    | cons c cs => simp only [Inc] at h2; omega
  | succ n ih =>
    intro i a b s
    have hi : i + ((n + 1 : Nat) : Int) = (i + 1) + (n : Int) := by omega
    simp only [enum, List.mem_append, ih, hi]
    cases s with
    | nil => simp
    | cons c cs =>
      have p0 := sumF_nonneg (f := S42.f0) (l := l) (fun i => (hp i).1) cs
      have p1 := sumF_nonneg (f := S42.f1) (l := l) (fun i => (hp i).2.1) cs
      by_cases hc : c = i
      · subst hc
        have e2 : ¬ Inc (c + 1) (c + 1 + (n : Int)) (c :: cs) := by simp only [Inc]; omega
        constructor
        · rintro (h | h)
          · by_cases hh : (rd_T42 l c).f0 ≤ a ∧ (rd_T42 l c).f1 ≤ b
            · rw [if_pos hh] at h
              simp only [List.mem_cons, List.mem_map, ih] at h
              rcases h with h | ⟨t, ⟨h1, h2, h3, h4⟩, h5⟩
              · cases h
                refine ⟨by simp, ?_, ?_, ?_⟩
                · simp only [Inc]; exact ⟨by omega, by omega, trivial⟩
                · simp only [sumF]; omega
                · simp only [sumF]; omega
              · cases h5
                refine ⟨by simp, ?_, ?_, ?_⟩
                · simp only [Inc]; exact ⟨by omega, by omega, h2⟩
                · simp only [sumF]; omega
                · simp only [sumF]; omega
            · rw [if_neg hh] at h; simp at h
          · exact absurd h.2.1 e2
        · rintro ⟨_, h2, h3, h4⟩
          left
          simp only [sumF] at h3 h4
          simp only [Inc] at h2
          rw [if_pos ⟨by omega, by omega⟩]
          simp only [List.mem_cons, List.mem_map, ih]
          by_cases hn : cs = []
          · left; rw [hn]
          · right
            exact ⟨cs, ⟨hn, h2.2.2, by omega, by omega⟩, rfl⟩
      · constructor
        · rintro (h | h)
          · by_cases hh : (rd_T42 l i).f0 ≤ a ∧ (rd_T42 l i).f1 ≤ b
            · rw [if_pos hh] at h
              simp only [List.mem_cons, List.mem_map] at h
              rcases h with h | ⟨t, _, h5⟩
              · cases h; exact absurd rfl hc
              · cases h5; exact absurd rfl hc
            · rw [if_neg hh] at h; simp at h
          · obtain ⟨h1, h2, h3, h4⟩ := h
            refine ⟨h1, ?_, h3, h4⟩
            simp only [Inc] at *
            exact ⟨by omega, h2.2.1, h2.2.2⟩
        · rintro ⟨h1, h2, h3, h4⟩
          right
          refine ⟨h1, ?_, h3, h4⟩
          simp only [Inc] at *
          exact ⟨by omega, h2.2.1, h2.2.2⟩

theorem enum_pairwise {l : List S42} (hp : Pos l) (n : Nat) : ∀ (i a b : Int), (enum l n i a b).Pairwise (fun s t => lex s t = true) := by
  induction n with
  | zero => intros; exact List.Pairwise.nil
  | succ n ih =>
    intro i a b
    simp only [enum]
    rw [List.pairwise_append]
    refine ⟨?_, ih _ _ _, ?_⟩
    · split
      · rw [List.pairwise_cons, List.pairwise_map]
        refine ⟨fun t ht => ?_, (ih _ _ _).imp fun h => by simp [lex, h]⟩
        rw [List.mem_map] at ht
        obtain ⟨u, hu, rfl⟩ := ht
        rw [mem_enum hp] at hu
        cases u with
        | nil => exact absurd rfl hu.1
        | cons _ _ => simp [lex]
      · exact List.Pairwise.nil
    · intro s hs t ht
      rw [mem_enum hp] at ht
      cases t with
      | nil => exact absurd rfl ht.1
      | cons c cs =>
        have hc : i < c := by have := ht.2.1; simp only [Inc] at this; omega
        split at hs
        · simp only [List.mem_cons, List.mem_map] at hs
          rcases hs with rfl | ⟨u, _, rfl⟩
          · simp only [lex]; rw [if_neg (by omega)]; simp [hc]
          · simp only [lex]; rw [if_neg (by omega)]; simp [hc]
        · simp at hs

theorem fold_best (V : List Int → Int) (L : List (List Int)) : ∀ st : List Int × Int,
    st.2 ≤ (L.foldl (fun st s => upd s (V s) st) st).2 ∧ (∀ s ∈ L, V s ≤ (L.foldl (fun st s => upd s (V s) st) st).2) ∧
      (L.foldl (fun st s => upd s (V s) st) st = st ∨
        ((L.foldl (fun st s => upd s (V s) st) st).1 ∈ L ∧ V (L.foldl (fun st s => upd s (V s) st) st).1 = (L.foldl (fun st s => upd s (V s) st) st).2 ∧ st.2 < (L.foldl (fun st s => upd s (V s) st) st).2 ∧
          (L.Pairwise (fun s t => lex s t = true) → ∀ s ∈ L, V s = (L.foldl (fun st s => upd s (V s) st) st).2 → s = (L.foldl (fun st s => upd s (V s) st) st).1 ∨ lex (L.foldl (fun st s => upd s (V s) st) st).1 s = true))) := by
  induction L with
  | nil => intro st; exact ⟨Int.le_refl _, by simp, .inl rfl⟩
  | cons s L ih =>
    intro st
    simp only [List.foldl_cons]
    have h := ih (upd s (V s) st)
    generalize hr : L.foldl (fun st s => upd s (V s) st) (upd s (V s) st) = r at *
    obtain ⟨h1, h2, h3⟩ := h
    by_cases hu : st.2 < V s
    · have e : upd s (V s) st = (s, V s) := by unfold upd; rw [if_pos hu]
      rw [e] at h1 h3
      simp only at h1 h3
      refine ⟨by omega, fun t ht => ?_, .inr ?_⟩
      · rcases List.mem_cons.1 ht with rfl | ht
        · exact h1
        · exact h2 t ht
      · rcases h3 with h3 | ⟨h3, h4, h5, h6⟩
        · rw [h3]
          refine ⟨List.mem_cons_self, rfl, hu, fun hp t ht _ => ?_⟩
          rcases List.mem_cons.1 ht with rfl | ht
          · exact .inl rfl
          · exact .inr (List.rel_of_pairwise_cons hp ht)
        · refine ⟨List.mem_cons_of_mem _ h3, h4, by omega, fun hp t ht hv => ?_⟩
          rcases List.mem_cons.1 ht with rfl | ht
          · omega
          · exact h6 hp.of_cons t ht hv
    · have e : upd s (V s) st = st := by unfold upd; rw [if_neg hu]
      rw [e] at h1 h3
      refine ⟨h1, fun t ht => ?_, ?_⟩
      · rcases List.mem_cons.1 ht with rfl | ht
        · omega
        · exact h2 t ht
      · rcases h3 with h3 | ⟨h3, h4, h5, h6⟩
        · exact .inl h3
        · refine .inr ⟨List.mem_cons_of_mem _ h3, h4, h5, fun hp t ht hv => ?_⟩
          rcases List.mem_cons.1 ht with rfl | ht
          · omega
          · exact h6 hp.of_cons t ht hv

theorem best_is {l : List S42} (hp : Pos l) {a b : Int} (ha : 0 ≤ a) (hb : 0 ≤ b) : IsBest l a b (bestP l a b) := by
  unfold bestP
  rw [if_pos ⟨ha, hb⟩, loop_enum]
  have e : upd [] 0 (([] : List Int), (-1 : Int)) = ([], 0) := by unfold upd; simp
  simp only [e, List.nil_append, Int.zero_add]
  have h := fold_best (sumF S42.f2 l) (enum l l.length 0 a b) ([], 0)
  generalize (enum l l.length 0 a b).foldl (fun st s => upd s (sumF S42.f2 l s) st) ([], 0) = r at *
  obtain ⟨h1, h2, h3⟩ := h
  have hm := mem_enum hp l.length 0 a b
  have fits : Fit l a b r.1 ∧ sumF S42.f2 l r.1 = r.2 := by
    rcases h3 with h3 | ⟨h3, h4, _⟩
    · rw [h3]
      exact ⟨⟨trivial, ha, hb⟩, rfl⟩
    · obtain ⟨_, g1, g2, g3⟩ := (hm _).1 h3
      exact ⟨⟨by simpa using g1, g2, g3⟩, h4⟩
  refine ⟨fits.1, fun s hs => ?_⟩
  rw [fits.2]
  by_cases hn : s = []
  · subst hn
    simp only [sumF]
    rcases h3 with h3 | ⟨_, _, h5, _⟩
    · right; rw [h3]; exact ⟨rfl, rfl⟩
    · left; exact h5
  · have hin : s ∈ enum l l.length 0 a b := (hm s).2 ⟨hn, by simpa using hs.1, hs.2.1, hs.2.2⟩
    have hle := h2 s hin
    by_cases hv : sumF S42.f2 l s = r.2
    · right
      refine ⟨hv, ?_⟩
      rcases h3 with h3 | ⟨_, _, _, h6⟩
      · rw [h3]
        cases s with
        | nil => exact absurd rfl hn
        | cons _ _ => rfl
      · rcases h6 (enum_pairwise hp _ _ _ _) s hin hv with h7 | h7
        · rw [h7]; exact lex_irr _
        · exact lex_asymm h7
    · left; omega

theorem best_none {l : List S42} {a b : Int} (h : a < 0 ∨ b < 0) : bestP l a b = [] := by
  unfold bestP
  rw [if_neg (by omega)]
theorem fit_none {l : List S42} (hp : Pos l) {a b : Int} (h : a < 0 ∨ b < 0) (s : List Int) : ¬ Fit l a b s := by
  rintro ⟨_, h2, h3⟩
  have := sumF_nonneg (f := S42.f0) (l := l) (fun i => (hp i).1) s
  have := sumF_nonneg (f := S42.f1) (l := l) (fun i => (hp i).2.1) s
  omega

end Go.Proofs.Ytjblknlmjklkgaa.A

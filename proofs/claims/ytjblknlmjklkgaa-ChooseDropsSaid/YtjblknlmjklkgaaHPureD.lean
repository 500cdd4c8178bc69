/- ChooseDrops over numbers and lists: without an item that was not chosen the same items are chosen. -/
import Derived.Test.YtjblknlmjklkgaaHPureB
namespace Go.Proofs.Ytjblknlmjklkgaa.A
open Go.RowKit Go.Proofs.YtjblknlmjklkgaaW.PrintWords
set_option linter.unusedVariables false
set_option linter.unusedSimpArgs false

theorem inc_iff (hi : Int) (s : List Int) : ∀ lo, Inc lo hi s ↔ (∀ c ∈ s, lo ≤ c ∧ c < hi) ∧ s.Pairwise (· < ·) := by
  induction s with
  | nil => intro lo; simp [Inc]
  | cons c cs ih =>
    intro lo
    simp only [Inc, ih, List.mem_cons, List.pairwise_cons]
    constructor
    · rintro ⟨h1, h2, h3, h4⟩
      refine ⟨?_, fun d hd => by have := h3 d hd; omega, h4⟩
      rintro d (rfl | hd)
      · exact ⟨h1, h2⟩
      · have := h3 d hd; omega
    · rintro ⟨h1, h2, h3⟩
      refine ⟨(h1 c (.inl rfl)).1, (h1 c (.inl rfl)).2, fun d hd => ?_, h3⟩
      have := h1 d (.inr hd)
      have := h2 d hd
      omega

theorem lex_map (f : Int → Int) (hf : ∀ a b, a < b → f a < f b) : ∀ s t : List Int, lex (s.map f) (t.map f) = lex s t
  | [], [] => rfl
  | [], _ :: _ => rfl
  | _ :: _, [] => rfl
  | x :: xs, y :: ys => by
    simp only [List.map_cons, lex, lex_map f hf xs ys]
    by_cases e : x = y
    · subst e; simp
    · rcases Int.lt_or_gt_of_ne e with h | h
      · have := hf x y h
        rw [if_neg e, if_neg (by omega)]
        simp [h, this]
      · have := hf y x h
        rw [if_neg e, if_neg (by omega)]
        congr 1
        simp only [eq_iff_iff]
        omega

theorem sumF_map (f : S42 → Int) (l l' : List S42) (g : Int → Int) (s : List Int) (h : ∀ c ∈ s, rd_T42 l (g c) = rd_T42 l' c) : sumF f l (s.map g) = sumF f l' s := by
  induction s with
  | nil => rfl
  | cons c cs ih =>
    simp only [List.map_cons, sumF]
    rw [h c List.mem_cons_self, ih (fun d hd => h d (List.mem_cons_of_mem _ hd))]

/-- The list without the item k. -/
def less (l : List S42) (k : Nat) : List S42 := l.take k ++ l.drop (k + 1)
theorem less_length {l : List S42} {k : Nat} (hk : k < l.length) : (less l k).length = l.length - 1 := by
  unfold less
  simp
  omega
def un (k : Nat) (c : Int) : Int := if c < k then c else c + 1
def sh (k : Nat) (c : Int) : Int := if c > k then c - 1 else c
theorem less_rd {l : List S42} {k : Nat} (hk : k < l.length) (c : Int) (h0 : 0 ≤ c) : rd_T42 l (un k c) = rd_T42 (less l k) c := by
  obtain ⟨j, rfl⟩ := Int.eq_ofNat_of_zero_le h0
  unfold rd_T42 un less
  by_cases h : (j : Int) < k
  · rw [if_pos h]
    simp only [Int.toNat_natCast, List.getD_eq_getElem?_getD]
    rw [List.getElem?_append_left (by simp; omega), List.getElem?_take_of_lt (by omega)]
  · rw [if_neg h, show ((j : Int) + 1).toNat = j + 1 by omega]
    simp only [Int.toNat_natCast, List.getD_eq_getElem?_getD]
    rw [List.getElem?_append_right (by simp; omega), List.getElem?_drop]
    simp
    rw [show k + 1 + (j - min k l.length) = j + 1 by omega]

theorem less_right {l : List S42} {k : Nat} (h : rightP l = 0) : rightP (less l k) = 0 := by
  unfold rightP at h ⊢
  by_cases h1 : 12 < l.length
  · rw [if_pos h1] at h; omega
  · rw [if_neg h1] at h
    by_cases h2 : l.all okItem = true
    · have hl : (less l k).length ≤ l.length := by unfold less; simp; omega
      have ha : (less l k).all okItem = true := by
        rw [List.all_eq_true] at h2 ⊢
        intro x hx
        unfold less at hx
        rcases List.mem_append.1 hx with hx | hx
        · exact h2 x (List.mem_of_mem_take hx)
        · exact h2 x (List.mem_of_mem_drop hx)
      rw [if_neg (by omega), if_pos ha]
    · rw [if_neg h2] at h; omega

theorem fit_un {l : List S42} {k : Nat} (hk : k < l.length) {a b : Int} {s : List Int} (h : Fit (less l k) a b s) : Fit l a b (s.map (un k)) ∧ sumF S42.f2 l (s.map (un k)) = sumF S42.f2 (less l k) s := by
  obtain ⟨h1, h2, h3⟩ := h
  rw [inc_iff, less_length hk] at h1
  have e : ∀ c ∈ s, rd_T42 l (un k c) = rd_T42 (less l k) c := fun c hc => less_rd hk c (h1.1 c hc).1
  refine ⟨⟨?_, by rw [sumF_map _ _ _ _ _ e]; exact h2, by rw [sumF_map _ _ _ _ _ e]; exact h3⟩, sumF_map _ _ _ _ _ e⟩
  rw [inc_iff]
  refine ⟨fun c hc => ?_, ?_⟩
  · rw [List.mem_map] at hc
    obtain ⟨d, hd, rfl⟩ := hc
    have := h1.1 d hd
    unfold un
    split <;> omega
  · rw [List.pairwise_map]
    refine h1.2.imp fun {c d} hcd => ?_
    unfold un
    split <;> split <;> omega

theorem un_sh {k : Nat} {c : Int} (h : c ≠ k) : un k (sh k c) = c := by
  unfold un sh
  split <;> split <;> omega

theorem fit_sh {l : List S42} {k : Nat} (hk : k < l.length) {a b : Int} {s : List Int} (hn : ∀ c ∈ s, c ≠ (k : Int)) (h : Fit l a b s) : Fit (less l k) a b (s.map (sh k)) ∧ sumF S42.f2 (less l k) (s.map (sh k)) = sumF S42.f2 l s := by
  obtain ⟨h1, h2, h3⟩ := h
  rw [inc_iff] at h1
  have e : ∀ c ∈ s, rd_T42 (less l k) (sh k c) = rd_T42 l c := fun c hc => by
    have h5 := h1.1 c hc
    have h6 := hn c hc
    rw [← less_rd hk _ (by unfold sh; split <;> omega), un_sh h6]
  refine ⟨⟨?_, by rw [sumF_map _ _ _ _ _ e]; exact h2, by rw [sumF_map _ _ _ _ _ e]; exact h3⟩, sumF_map _ _ _ _ _ e⟩
  rw [inc_iff, less_length hk]
  refine ⟨fun c hc => ?_, ?_⟩
  · rw [List.mem_map] at hc
    obtain ⟨d, hd, rfl⟩ := hc
    have := h1.1 d hd
    have := hn d hd
    unfold sh
    split <;> omega
  · rw [List.pairwise_map]
    refine h1.2.imp_of_mem fun {c d} hc hd hcd => ?_
    have := hn c hc
    have := hn d hd
    unfold sh
    split <;> split <;> omega

theorem best_less {l : List S42} (h0 : rightP l = 0) {k : Nat} (hk : k < l.length) (a b : Int) (hn : ∀ c ∈ bestP l a b, c ≠ (k : Int)) : bestP (less l k) a b = (bestP l a b).map (sh k) := by
  have hI := items_of' h0
  have hI' := items_of' (less_right (k := k) h0)
  by_cases h : 0 ≤ a ∧ 0 ≤ b
  · have hb := best_is hI.pos h.1 h.2
    refine IsBest.unique (best_is hI'.pos h.1 h.2) ?_
    obtain ⟨h1, h2⟩ := fit_sh hk hn hb.1
    refine ⟨h1, fun s hs => ?_⟩
    obtain ⟨h3, h4⟩ := fit_un hk hs
    have hmm : ((bestP l a b).map (sh k)).map (un k) = bestP l a b := by
      rw [List.map_map]
      have : ∀ c ∈ bestP l a b, (un k ∘ sh k) c = id c := fun c hc => un_sh (hn c hc)
      rw [List.map_congr_left this, List.map_id]
    have hmono : ∀ c d, c < d → un k c < un k d := fun c d hcd => by unfold un; split <;> split <;> omega
    rcases hb.2 _ h3 with h5 | ⟨h5, h6⟩
    · left; omega
    · right
      refine ⟨by omega, ?_⟩
      rw [← lex_map (un k) hmono, hmm]
      exact h6
  · rw [best_none (by omega), best_none (by omega)]
    rfl

theorem drops_loop {l : List S42} (h0 : rightP l = 0) {q : Nat} (hq : q < l.length) {a b : Int} (h1 : In64 a) (h2 : In64 b) (d : Nat) : ∀ (k i : Nat) (want : List Int), i + d = (bestP l a b).length → d + 100 < k →
    (∀ c ∈ (bestP l a b).take i, c ≠ (q : Int)) → want = ((bestP l a b).take i).map (sh q) → skiarealaw07_ChooseDrops.l0 k l (bestP l a b) (q : Int) want (i : Int) a b = some true := by
  have hI := items_of' h0
  have hx := best_len hI a b
  have hinc := best_inc hI a b
  rw [inc_iff] at hinc
  induction d with
  | zero =>
    intro k i want hi hk hne hw
    obtain ⟨k, rfl⟩ : ∃ m, k = m + 1 := ⟨k - 1, by omega⟩
    simp only [skiarealaw07_ChooseDrops.l0]
    rw [List.take_of_length_le (by omega)] at hne hw
    have hb := best_less h0 hq a b hne
    have hlen := hI.1
    have e : wrap64 ((q : Int) + 1) = ((q + 1 : Nat) : Int) := by rw [wrap_small (by omega) (by omega)]; rfl
    rw [if_neg (by omega), e]
    simp only [Option.bind_some, Int.toNat_natCast]
    have e2 : ([] : List S42) ++ l.take q ++ l.drop (q + 1) = less l q := rfl
    rw [if_pos (by omega), if_pos (by omega), if_pos (by simp; omega), if_pos (by omega), if_pos (by omega), if_pos (by simp; omega), e2, best_f _ h1 h2, if_pos (less_right h0)]
    simp only [Option.bind_some, if_true]
    rw [hb, ← hw, same_f want (by rw [hw]; simp; omega) k (by rw [hw]; simp; omega)]
    rfl
  | succ d ih =>
    intro k i want hi hk hne hw
    obtain ⟨k, rfl⟩ : ∃ m, k = m + 1 := ⟨k - 1, by omega⟩
    simp only [skiarealaw07_ChooseDrops.l0]
    rw [if_pos (by omega), if_pos (by omega)]
    have hlt : i < (bestP l a b).length := by omega
    have hrd : rd (bestP l a b) (i : Int) = (bestP l a b)[i] := by unfold rd; simp [List.getD_eq_getElem?_getD, hlt]
    obtain ⟨c, hc⟩ : ∃ c, c = rd (bestP l a b) (i : Int) := ⟨_, rfl⟩
    have hcm : c ∈ bestP l a b := by rw [hc, hrd]; exact List.getElem_mem hlt
    have hcb := hinc.1 c hcm
    have htake : (bestP l a b).take (i + 1) = (bestP l a b).take i ++ [c] := by rw [List.take_succ_eq_append_getElem hlt, hc, hrd]
    have hwl : want.length ≤ 12 := by rw [hw]; simp; omega
    have hI1 := hI.1
    rw [← hc]
    by_cases g1 : c = (q : Int)
    · rw [if_pos g1]
    · rw [if_neg g1]
      have hne' : ∀ x ∈ (bestP l a b).take (i + 1), x ≠ (q : Int) := by
        rw [htake]
        intro x hx
        rcases List.mem_append.1 hx with hx | hx
        · exact hne x hx
        · simp only [List.mem_singleton] at hx
          rw [hx]
          exact g1
      have e : wrap64 ((i : Int) + 1) = ((i + 1 : Nat) : Int) := by rw [wrap_small (by omega) (by omega)]; rfl
      by_cases g2 : c > (q : Int)
      · rw [if_pos g2, if_pos (by omega), e, wrap_pred (by omega) (by omega)]
        refine ih k (i + 1) _ (by omega) (by omega) hne' ?_
        rw [htake, List.map_append, hw]
        simp [sh, g2]
      · rw [if_neg g2, if_pos (by omega), e]
        refine ih k (i + 1) _ (by omega) (by omega) hne' ?_
        rw [htake, List.map_append, hw]
        simp [sh, g2]

theorem PureChooseDrops (l : List S42) (a b : Int) (at_ : Int) (hm : l.length ≤ maxLen) (hy : l.length * 24 ≤ 140737488351232) (hF : ∀ x ∈ l, IntsOk x) (hab : (Lit.int .i64 a).wf = true ∧ (Lit.int .i64 b).wf = true)
    (w2 : (Lit.int .u8 at_).wf = true) : ∃ k, skiarealaw07_ChooseDrops.f k l a b at_ = some true := by
  refine ⟨1000, ?_⟩
  have hat := bounds_u8 w2
  unfold skiarealaw07_ChooseDrops.f skiarealaw07_alive.f
  simp only [Option.bind_some, if_true]
  rw [best_f l (in64 hab.1) (in64 hab.2)]
  simp only [Option.bind_some]
  by_cases h0 : rightP l = 0
  · rw [if_pos h0]
    simp only [if_true]
    simp only [skiarealaw07_ChooseDrops.j0]
    have hI := items_of' h0
    have hI1 := hI.1
    by_cases hz : l.length = 0
    · have hl : l = [] := List.eq_nil_of_length_eq_zero hz
      subst hl
      rw [if_pos (by simp)]
      have hx := best_inc hI a b
      have : bestP [] a b = [] := by
        cases h : bestP [] a b with
        | nil => rfl
        | cons c cs => rw [h] at hx; simp only [Inc, List.length_nil] at hx; omega
      rw [this]
      rfl
    · rw [if_neg (by simpa using hz), if_neg (by omega)]
      have e : Int.tmod (wrap64 at_) (l.length : Int) = ((at_.toNat % l.length : Nat) : Int) := by
        have e1 : wrap64 at_ = at_ := by unfold wrap64; omega
        rw [e1, Int.tmod_eq_emod_of_nonneg (by omega), Int.natCast_emod, Int.toNat_of_nonneg (by omega)]
      rw [e]
      exact drops_loop h0 (Nat.mod_lt _ (by omega)) (in64 hab.1) (in64 hab.2) (bestP l a b).length 999 0 [] (by omega) (by have := best_len hI a b; omega) (by simp) (by simp)
  · rw [if_neg h0]
    simp only
    rw [if_neg h0]
    simp [skiarealaw07_ChooseDrops.j0]

end Go.Proofs.Ytjblknlmjklkgaa.A

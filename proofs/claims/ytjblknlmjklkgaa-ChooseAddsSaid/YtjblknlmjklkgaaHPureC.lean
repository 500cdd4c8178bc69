/- ChooseAdds over numbers and lists: with an item more at the end the best choice is worth no less, and no more than the item's value more. -/
import Derived.Test.YtjblknlmjklkgaaHTheory
import Derived.Test.YtjblknlmjklkgaaHRight
import Derived.Test.YtjblknlmjklkgaaHVisit
import Derived.Test.YtjblknlmjklkgaaHOpens
import Derived.Test.YtjblknlmjklkgaaHAdds
namespace Go.Proofs.Ytjblknlmjklkgaa.A
open Go.RowKit Go.Proofs.YtjblknlmjklkgaaW.PrintWords
set_option linter.unusedVariables false
set_option linter.unusedSimpArgs false


/-- Items that Right accepts. -/
theorem items_of' {l : List S42} (h : rightP l = 0) : Items l := by
  unfold rightP at h
  by_cases h1 : 12 < l.length
  · rw [if_pos h1] at h; omega
  · rw [if_neg h1] at h
    by_cases h2 : l.all okItem = true
    · refine ⟨by omega, fun i => ?_⟩
      by_cases hi : i.toNat < l.length
      · have e : rd_T42 l i = l[i.toNat] := by unfold rd_T42; simp [List.getD_eq_getElem?_getD, hi]
        rw [e]
        have := List.all_eq_true.1 h2 _ (List.getElem_mem hi)
        unfold okItem at this
        simp only [decide_eq_true_eq] at this
        omega
      · have e : rd_T42 l i = z42 := by unfold rd_T42; simp [List.getD_eq_getElem?_getD, List.getElem?_eq_none (Nat.le_of_not_lt hi)]
        rw [e]
        simp [z42]
    · rw [if_neg h2] at h; omega
theorem Items.pos {l : List S42} (h : Items l) : Pos l := fun i => by have := h.2 i; omega

theorem drop_rdi (l : List Int) (i : Nat) (h : i < l.length) : l.drop i = rd l (i : Int) :: l.drop (i + 1) := by
  rw [List.drop_eq_getElem_cons h]
  unfold rd
  simp [List.getD_eq_getElem?_getD, h]

/-- What Need answers, from a place on. -/
def needR (l : List S42) (lo : Int) (cs : List Int) (a b v : Int) : Int × Int × Int × Bool :=
  if Inc lo l.length cs then (a + sumF S42.f0 l cs, b + sumF S42.f1 l cs, v + sumF S42.f2 l cs, true) else (0, 0, 0, false)
theorem needR_cons {l : List S42} {lo c : Int} {cs : List Int} {a b v : Int} (h0 : lo ≤ c) (h1 : c < l.length) :
    needR l lo (c :: cs) a b v = needR l (c + 1) cs (a + (rd_T42 l c).f0) (b + (rd_T42 l c).f1) (v + (rd_T42 l c).f2) := by
  unfold needR
  by_cases h : Inc (c + 1) l.length cs
  · rw [if_pos (by simp only [Inc]; exact ⟨h0, h1, h⟩), if_pos h]
    simp only [sumF, Int.add_assoc]
  · rw [if_neg (by simp only [Inc]; exact fun hh => h hh.2.2), if_neg h]
theorem needR_not {l : List S42} {lo c : Int} {cs : List Int} {a b v : Int} (h : ¬ (lo ≤ c ∧ c < l.length)) : needR l lo (c :: cs) a b v = (0, 0, 0, false) := by
  unfold needR
  rw [if_neg (by simp only [Inc]; exact fun hh => h ⟨hh.1, hh.2.1⟩)]

theorem wrap_sum {a x : Int} (h0 : 0 ≤ a) (h1 : a ≤ 1000000000000) (h2 : 0 ≤ x) (h3 : x ≤ 1000000000) : wrap64 (a + x) = a + x := by
  unfold wrap64
  omega
theorem wrap_pred {i : Int} (h0 : 0 < i) (h1 : i ≤ 1000000000000) : wrap64 (i - 1) = i - 1 := by
  unfold wrap64
  omega

/-- From where on the next index must lie. -/
def lowest (cs : List Int) (i : Nat) : Int := if i = 0 then 0 else rd cs ((i : Int) - 1) + 1

theorem need_loop {l : List S42} (hI : Items l) (cs : List Int) (hc : cs.length ≤ 40) (d : Nat) : ∀ (k i : Nat) (a b v : Int), i + d = cs.length → d < k → -1 ≤ lowest cs i - 1 → 0 ≤ a → a ≤ i * 1000000000 → 0 ≤ b → b ≤ i * 1000000000 → 0 ≤ v → v ≤ i * 1000000000 →
    choose_Need.l0 k l cs cs (cs.length : Int) (i : Int) a b v = some (needR l (lowest cs i) (cs.drop i) a b v) := by
  induction d with
  | zero =>
    intro k i a b v hi hk _ _ _ _ _ _ _
    obtain ⟨k, rfl⟩ : ∃ m, k = m + 1 := ⟨k - 1, by omega⟩
    simp only [choose_Need.l0]
    rw [if_neg (by omega), List.drop_eq_nil_of_le (by omega)]
    unfold needR
    rw [if_pos (by simp [Inc])]
    simp [sumF]
  | succ d ih =>
    intro k i a b v hi hk hlo a0 a1 b0 b1 v0 v1
    obtain ⟨k, rfl⟩ : ∃ m, k = m + 1 := ⟨k - 1, by omega⟩
    simp only [choose_Need.l0]
    rw [if_pos (by omega), if_pos (by omega), if_pos (by omega), drop_rdi cs i (by omega)]
    obtain ⟨c, hcc⟩ : ∃ c, c = rd cs (i : Int) := ⟨_, rfl⟩
    have hlow : lowest cs (i + 1) = c + 1 := by
      unfold lowest
      rw [if_neg (by omega), hcc]
      congr 2
      omega
    rw [← hcc]
    by_cases g0 : c < 0
    · rw [if_pos g0, needR_not (by omega)]
    · rw [if_neg g0]
      by_cases g1 : c ≥ (l.length : Int)
      · rw [if_pos g1, needR_not (by omega)]
      · rw [if_neg g1]
        have hx := hI.2 c
        have next : choose_Need.l0 k l cs cs (cs.length : Int) (wrap64 ((i : Int) + 1)) (wrap64 (a + (rd_T42 l c).f0)) (wrap64 (b + (rd_T42 l c).f1)) (wrap64 (v + (rd_T42 l c).f2)) =
            some (needR l (c + 1) (cs.drop (i + 1)) (a + (rd_T42 l c).f0) (b + (rd_T42 l c).f1) (v + (rd_T42 l c).f2)) := by
          rw [wrap_small (by omega) (by omega), wrap_sum a0 (by omega) (by omega) (by omega), wrap_sum b0 (by omega) (by omega) (by omega), wrap_sum v0 (by omega) (by omega) (by omega)]
          have h2 := ih k (i + 1) (a + (rd_T42 l c).f0) (b + (rd_T42 l c).f1) (v + (rd_T42 l c).f2) (by omega) (by omega) (by rw [hlow]; omega) (by omega) (by omega) (by omega) (by omega) (by omega) (by omega)
          rw [hlow] at h2
          simp only [Int.natCast_add, Int.cast_ofNat_Int] at h2
          exact h2
        by_cases g2 : (i : Int) > 0
        · have hl : lowest cs i = rd cs ((i : Int) - 1) + 1 := by unfold lowest; rw [if_neg (by omega)]
          rw [if_pos g2, wrap_pred g2 (by omega), if_pos (by omega), if_pos (by omega)]
          by_cases g3 : c ≤ rd cs ((i : Int) - 1)
          · rw [if_pos g3, needR_not (by omega)]
          · rw [if_neg g3, if_pos (by omega), if_pos (by omega), next, needR_cons (by omega) (by omega)]
        · have hl : lowest cs i = 0 := by unfold lowest; rw [if_pos (by omega)]
          rw [if_neg g2, if_pos (by omega), if_pos (by omega), next, needR_cons (by omega) (by omega)]

theorem need_f {l : List S42} (hI : Items l) (cs : List Int) (hc : cs.length ≤ 40) (k : Nat) (hk : 40 < k) : choose_Need.f k l cs = some (needR l 0 cs 0 0 0) := by
  unfold choose_Need.f
  have := need_loop hI cs hc cs.length k 0 0 0 0 (by omega) (by omega) (by simp [lowest]) (by omega) (by omega) (by omega) (by omega) (by omega) (by omega)
  simpa [lowest] using this

theorem Inc.len {lo hi : Int} {cs : List Int} (h : Inc lo hi cs) (hl : lo ≤ hi) : (cs.length : Int) ≤ hi - lo := by
  induction cs generalizing lo with
  | nil => simp; omega
  | cons c cs ih =>
    obtain ⟨h1, h2, h3⟩ := h
    have := ih h3 (by omega)
    simp only [List.length_cons, Int.natCast_add, Int.cast_ofNat_Int]
    omega

def IntsOk (x : S42) : Prop := (Lit.int .i64 x.f0).wf = true ∧ (Lit.int .i64 x.f1).wf = true ∧ (Lit.int .i64 x.f2).wf = true
theorem opens42 : Opens Try.prog 42 k42 IntsOk :=
  Opens.iso (Opens.struct3 Try.underlying42 (by kernel_rfl) (by kernel_rfl) (Opens.int Try.underlying3) (Opens.int Try.underlying3) (Opens.int Try.underlying3)) _ (fun x => ⟨x.1, x.2.1, x.2.2⟩) (fun _ => rfl)
theorem opens3 : Opens Try.prog 3 (Kd.int .i64) (fun n => (Lit.int .i64 n).wf = true) := Opens.int Try.underlying3
theorem in64 {a : Int} (h : (Lit.int .i64 a).wf = true) : In64 a := by
  have := bounds_i64 h
  unfold In64
  omega

theorem best_f (l : List S42) {a b : Int} (h1 : In64 a) (h2 : In64 b) : choose_Best.f l a b = some (if rightP l = 0 then (bestP l a b, 0) else ([], rightP l)) := by
  unfold choose_Best.f
  rw [if_pos ⟨h1, h2⟩]
  by_cases h : rightP l = 0
  · rw [if_pos h, if_pos h]
  · rw [if_neg h, if_neg h]

theorem best_inc {l : List S42} (hI : Items l) (a b : Int) : Inc 0 l.length (bestP l a b) := by
  by_cases h : 0 ≤ a ∧ 0 ≤ b
  · exact (best_is hI.pos h.1 h.2).1.1
  · rw [best_none (by omega)]; trivial
theorem best_len {l : List S42} (hI : Items l) (a b : Int) : (bestP l a b).length ≤ 12 := by
  have h1 := (best_inc hI a b).len (by omega)
  have h2 := hI.1
  omega
theorem need_best {l : List S42} (hI : Items l) (a b : Int) (k : Nat) (hk : 40 < k) :
    choose_Need.f k l (bestP l a b) = some (sumF S42.f0 l (bestP l a b), sumF S42.f1 l (bestP l a b), sumF S42.f2 l (bestP l a b), true) := by
  rw [need_f hI _ (by have := best_len hI a b; omega) k hk]
  unfold needR
  rw [if_pos (best_inc hI a b)]
  simp

theorem inc_iff (hi : Int) (s : List Int) : ∀ lo, Inc lo hi s ↔ (∀ c ∈ s, lo ≤ c ∧ c < hi) ∧ s.Pairwise (· < ·) := by
  induction s with
  | nil => intro lo; simp [Inc]
  | cons c cs ih =>
    intro lo
    simp only [Inc, ih, List.mem_cons, List.pairwise_cons]
    constructor
    · rintro ⟨h1, h2, h3, h4⟩
      refine ⟨?_, fun d hd => by have := h3 d hd; omega, h4⟩
      rintro d (rfl | hd)
      · exact ⟨h1, h2⟩
      · have := h3 d hd; omega
    · rintro ⟨h1, h2, h3⟩
      refine ⟨(h1 c (.inl rfl)).1, (h1 c (.inl rfl)).2, fun d hd => ?_, h3⟩
      have := h1 d (.inr hd)
      have := h2 d hd
      omega

theorem rd_app {l m : List S42} {c : Int} (h0 : 0 ≤ c) (h1 : c < l.length) : rd_T42 (l ++ m) c = rd_T42 l c := by
  obtain ⟨j, rfl⟩ := Int.eq_ofNat_of_zero_le h0
  unfold rd_T42
  simp only [Int.toNat_natCast, List.getD_eq_getElem?_getD]
  rw [List.getElem?_append_left (by omega)]
theorem rd_last (l : List S42) (x : S42) : rd_T42 (l ++ [x]) (l.length : Int) = x := by
  unfold rd_T42
  simp [List.getD_eq_getElem?_getD]
theorem sumF_app {f : S42 → Int} {l m : List S42} : ∀ s : List Int, (∀ c ∈ s, 0 ≤ c ∧ c < (l.length : Int)) → sumF f (l ++ m) s = sumF f l s
  | [], _ => rfl
  | c :: cs, h => by
    have hc := h c List.mem_cons_self
    simp only [sumF]
    rw [rd_app hc.1 hc.2, sumF_app cs (fun d hd => h d (List.mem_cons_of_mem _ hd))]
theorem sumF_without {f : S42 → Int} {l : List S42} (hp : ∀ i : Int, 0 ≤ f (rd_T42 l i)) (n : Int) : ∀ (s : List Int) (lo : Int), Inc lo (n + 1) s →
    sumF f l (s.filter (fun c => c != n)) ≤ sumF f l s ∧ sumF f l s ≤ sumF f l (s.filter (fun c => c != n)) + f (rd_T42 l n)
  | [], _, _ => by have := hp n; simp [sumF]; omega
  | c :: cs, lo, h => by
    have ih := sumF_without hp n cs (c + 1) h.2.2
    by_cases hc : c = n
    · subst hc
      have : cs = [] := by
        cases cs with
        | nil => rfl
        | cons d ds => have := h.2.2; simp only [Inc] at this; omega
      subst this
      have := hp c
      simp [sumF]
      omega
    · rw [List.filter_cons_of_pos (by simpa using hc)]
      simp only [sumF]
      omega
theorem sumF_le {f : S42 → Int} {l : List S42} (h : ∀ i : Int, f (rd_T42 l i) ≤ 1000000000) : ∀ s : List Int, sumF f l s ≤ s.length * 1000000000
  | [] => by simp [sumF]
  | c :: cs => by have := sumF_le h cs; have := h c; simp only [sumF, List.length_cons]; omega
theorem app_right {l m : List S42} (h : rightP (l ++ m) = 0) : rightP l = 0 := by
  unfold rightP at h ⊢
  by_cases h1 : 12 < (l ++ m).length
  · rw [if_pos h1] at h; omega
  · rw [if_neg h1] at h
    by_cases h2 : (l ++ m).all okItem = true
    · rw [if_neg (by simp at h1; omega), if_pos (by rw [List.all_append] at h2; simp only [Bool.and_eq_true] at h2; exact h2.1)]
    · rw [if_neg h2] at h; omega

theorem adds_best {l : List S42} {x : S42} (h : rightP (l ++ [x]) = 0) (a b : Int) :
    sumF S42.f2 l (bestP l a b) ≤ sumF S42.f2 (l ++ [x]) (bestP (l ++ [x]) a b) ∧ sumF S42.f2 (l ++ [x]) (bestP (l ++ [x]) a b) ≤ sumF S42.f2 l (bestP l a b) + x.f2 := by
  have hI := items_of' h
  have hJ := items_of' (app_right h)
  have hx : 0 ≤ x.f2 := by have := (hI.pos (l.length : Int)).2.2; rw [rd_last] at this; exact this
  by_cases hab : 0 ≤ a ∧ 0 ≤ b
  · have h1 := best_is hI.pos hab.1 hab.2
    have h2 := best_is hJ.pos hab.1 hab.2
    constructor
    · have g := (inc_iff _ _ _).1 h2.1.1
      have e : ∀ f : S42 → Int, sumF f (l ++ [x]) (bestP l a b) = sumF f l (bestP l a b) := fun f => sumF_app _ (fun c hc => g.1 c hc)
      have : Fit (l ++ [x]) a b (bestP l a b) := by
        refine ⟨?_, by rw [e]; exact h2.1.2.1, by rw [e]; exact h2.1.2.2⟩
        rw [inc_iff]
        exact ⟨fun c hc => by have := g.1 c hc; simp; omega, g.2⟩
      rcases h1.2 _ this with h3 | ⟨h3, _⟩
      · rw [e] at h3; omega
      · rw [e] at h3; omega
    · generalize bestP (l ++ [x]) a b = t at *
      have hi : Inc 0 ((l.length : Int) + 1) t := by have := h1.1.1; simpa using this
      have g := (inc_iff _ _ _).1 hi
      have g2 : ∀ c ∈ t.filter (fun c => c != (l.length : Int)), 0 ≤ c ∧ c < (l.length : Int) := fun c hc => by
        rw [List.mem_filter] at hc
        have h3 := g.1 c hc.1
        have h4 : c ≠ (l.length : Int) := by simpa using hc.2
        omega
      have e : ∀ f : S42 → Int, sumF f (l ++ [x]) (t.filter (fun c => c != (l.length : Int))) = sumF f l (t.filter (fun c => c != (l.length : Int))) := fun f => sumF_app _ g2
      have w0 := sumF_without (f := S42.f0) (fun i => (hI.pos i).1) (l.length : Int) t 0 hi
      have w1 := sumF_without (f := S42.f1) (fun i => (hI.pos i).2.1) (l.length : Int) t 0 hi
      have w2 := sumF_without (f := S42.f2) (fun i => (hI.pos i).2.2) (l.length : Int) t 0 hi
      rw [e] at w0 w1 w2
      rw [rd_last] at w0 w1 w2
      have hf : Fit l a b (t.filter (fun c => c != (l.length : Int))) := by
        refine ⟨?_, by have := h1.1.2.1; omega, by have := h1.1.2.2; omega⟩
        rw [inc_iff]
        exact ⟨g2, g.2.filter _⟩
      rcases h2.2 _ hf with h3 | ⟨h3, _⟩ <;> omega
  · rw [best_none (by omega), best_none (by omega)]
    simpa [sumF] using hx

theorem PureChooseAdds (l : List S42) (x0 x1 x2 a b : Int) (hm : l.length ≤ maxLen) (hy : l.length * 24 ≤ 140737488351232) (hF : ∀ x ∈ l, IntsOk x) (hx : IntsOk ⟨x0, x1, x2⟩)
    (hab : (Lit.int .i64 a).wf = true ∧ (Lit.int .i64 b).wf = true) : ∃ k, skiarealaw07_ChooseAdds.f k l x0 x1 x2 a b = some true := by
  refine ⟨1000, ?_⟩
  unfold skiarealaw07_ChooseAdds.f skiarealaw07_alive.f
  simp only [Option.bind_some, if_true, List.nil_append]
  rw [if_pos (by simp; omega), if_pos (by simp; omega)]
  generalize hx' : (⟨x0, x1, x2⟩ : S42) = x at *
  have e2 : x.f2 = x2 := by rw [← hx']
  by_cases h0 : rightP (l ++ [x]) = 0
  · have hI := items_of' h0
    have hJ := items_of' (app_right h0)
    rw [right_f _ 1000 (by omega), h0]
    simp only [Option.bind_some, if_true]
    rw [best_f l (in64 hab.1) (in64 hab.2), best_f _ (in64 hab.1) (in64 hab.2), if_pos h0, if_pos (app_right h0)]
    simp only [Option.bind_some]
    rw [need_best hJ a b 1000 (by omega), need_best hI a b 1000 (by omega)]
    simp only [Option.bind_some, if_true]
    obtain ⟨g1, g2⟩ := adds_best h0 a b
    have hn := sumF_nonneg (f := S42.f2) (l := l) (fun i => (hJ.pos i).2.2) (bestP l a b)
    have hu := sumF_le (f := S42.f2) (l := l) (fun i => (hJ.2 i).2.2.2.2.2) (bestP l a b)
    have hlen := best_len hJ a b
    have hb := hI.2 (l.length : Int)
    rw [rd_last] at hb
    have e : wrap64 (sumF S42.f2 l (bestP l a b) + x2) = sumF S42.f2 l (bestP l a b) + x2 := by unfold wrap64; omega
    rw [if_pos g1, e]
    simp only [Option.some.injEq, decide_eq_true_eq]
    omega
  · rw [right_f _ 1000 (by omega)]
    simp only [Option.bind_some]
    rw [if_neg h0]

end Go.Proofs.Ytjblknlmjklkgaa.A

/- The statements of layer 15 over numbers and lists. -/
import Derived.Test.YtkkkfjbcefpjpaaHTheory
import Derived.Test.YtkkkfjbcefpjpaaHOpens
import Derived.Test.YtkkkfjbcefpjpaaAx10
namespace Go.Proofs.Ytkkkfjbcefpjpaa.A
open Go.RowKit Go.Proofs.YtkkkfjbcefpjpaaW.PrintWords
set_option linter.unusedVariables false
set_option linter.unusedSimpArgs false

def IntsOk (x : S32) : Prop := (Lit.int .i64 x.f0).wf = true ∧ (Lit.int .i64 x.f1).wf = true ∧ (Lit.int .i64 x.f2).wf = true ∧ (Lit.int .i64 x.f3).wf = true ∧ (Lit.int .i64 x.f4).wf = true
theorem opens32 : Opens Try.prog 32 k32 IntsOk :=
  Opens.iso (Opens.struct5 Try.underlying32 (by kernel_rfl) (by kernel_rfl) (Opens.int Try.underlying3) (Opens.int Try.underlying3) (Opens.int Try.underlying3) (Opens.int Try.underlying3) (Opens.int Try.underlying3)) _ (fun x => ⟨x.1, x.2.1, x.2.2.1, x.2.2.2.1, x.2.2.2.2⟩) (fun _ => rfl)
theorem in64 {a : Int} (h : (Lit.int .i64 a).wf = true) : In64 a := by
  have := bounds_i64 h
  unfold In64
  omega

/-- Brakes that Right accepts. -/
def Good (l : List S32) : Prop := l.length ≤ 8 ∧ (∀ x ∈ l, okB x = true) ∧ l.Pairwise (fun x y => x.f0 ≠ y.f0)
theorem rightGo_zero : ∀ (l seen : List S32), rightGo seen l = 0 → (∀ x ∈ l, okB x = true ∧ hasId x.f0 seen = false) ∧ l.Pairwise (fun x y => x.f0 ≠ y.f0)
  | [], seen, _ => ⟨by simp, List.Pairwise.nil⟩
  | x :: xs, seen, h => by
    simp only [rightGo] at h
    cases ho : okB x with
    | false => rw [if_neg (by simp [ho])] at h; omega
    | true =>
      rw [if_pos ho] at h
      cases hh : hasId x.f0 seen with
      | true => rw [if_pos hh] at h; omega
      | false =>
        rw [if_neg (by simp [hh])] at h
        obtain ⟨h1, h2⟩ := rightGo_zero xs _ h
        have h3 : ∀ y ∈ xs, hasId y.f0 seen = false ∧ x.f0 ≠ y.f0 := fun y hy => by
          have := (h1 y hy).2
          simp only [hasId, List.any_append, Bool.or_eq_false_iff, List.any_cons, List.any_nil, Bool.or_false, decide_eq_false_iff_not] at this
          exact ⟨this.1, this.2⟩
        refine ⟨?_, List.pairwise_cons.2 ⟨fun y hy => (h3 y hy).2, h2⟩⟩
        intro y hy
        rcases List.mem_cons.1 hy with rfl | hy
        · exact ⟨ho, hh⟩
        · exact ⟨(h1 y hy).1, (h3 y hy).1⟩
theorem good_of {l : List S32} (h : rightP l = 0) : Good l := by
  unfold rightP at h
  by_cases h1 : 8 < l.length
  · rw [if_pos h1] at h; omega
  · rw [if_neg h1] at h
    obtain ⟨h2, h3⟩ := rightGo_zero l [] h
    exact ⟨by omega, fun x hx => (h2 x hx).1, h3⟩
theorem rd_mem {l : List S32} {i : Nat} (h : i < l.length) : rd_T32 l (i : Int) ∈ l := by
  have : rd_T32 l (i : Int) = l[i] := by unfold rd_T32; simp [List.getD_eq_getElem?_getD, h]
  rw [this]
  exact List.getElem_mem h
theorem ok_bounds {x : S32} (h : okB x = true) : 1 ≤ x.f0 ∧ x.f0 ≤ 9999 ∧ (x.f1 = 0 ∨ x.f1 = 1) ∧ 1 ≤ x.f2 ∧ x.f2 ≤ 10000000 ∧ -1 ≤ x.f3 ∧ x.f3 ≤ 20000000 ∧ 0 ≤ x.f4 ∧ x.f4 ≤ 10000000 := by
  unfold okB at h
  simp only [decide_eq_true_eq] at h
  omega

theorem PureBrakeRight (l : List S32) (hm : l.length ≤ maxLen) (hy : l.length * 40 ≤ 140737488351232) (hF : ∀ x ∈ l, IntsOk x) : ∃ k, skiarealaw15_BrakeRight.f k l = some true := by
  refine ⟨300, ?_⟩
  unfold skiarealaw15_BrakeRight.f skiarealaw15_alive.f
  simp only [Option.bind_some, if_true]
  by_cases h : (l.length : Int) > 100
  · rw [if_pos h]
  · rw [if_neg h, right_f l 300 (by omega), refright_f l 300 (by omega)]
    simp

theorem PureBrakeValid (a b c d e t : Int) (hF : IntsOk ⟨a, b, c, d, e⟩) (w1 : (Lit.int .i64 t).wf = true) : skiarealaw15_BrakeValid.f a b c d e t = some true := by
  unfold skiarealaw15_BrakeValid.f skiarealaw15_alive.f
  simp only [Option.bind_some, if_true]
  obtain ⟨_, _, h2, _, h4⟩ := hF
  rw [valid_f a b c d e t (in64 h2) (in64 h4) (in64 w1), refvalid_f a b c d e t (in64 h2) (in64 h4) (in64 w1)]
  simp

/-! ### Force, Enough -/
def forceP (kind t : Int) : List S32 → Int
  | [] => 0
  | x :: xs => (if x.f1 = kind ∧ validP x.f2 x.f3 x.f4 t = true then x.f4 else 0) + forceP kind t xs
theorem force_loop {l : List S32} (hG : Good l) (kind : Int) {t : Int} (ht : In64 t) (d : Nat) : ∀ (k i : Nat) (acc : Int), i + d = l.length → d < k → 0 ≤ acc → acc ≤ i * 10000000 →
    brake_Force.l0 k kind t acc l (l.length : Int) (i : Int) = some (acc + forceP kind t (l.drop i)) := by
  have hl := hG.1
  induction d with
  | zero =>
    intro k i acc hi hk _ _
    obtain ⟨k, rfl⟩ : ∃ m, k = m + 1 := ⟨k - 1, by omega⟩
    simp only [brake_Force.l0]
    rw [if_neg (by omega), List.drop_eq_nil_of_le (by omega)]
    simp [forceP]
  | succ d ih =>
    intro k i acc hi hk h0 h1
    obtain ⟨k, rfl⟩ : ∃ m, k = m + 1 := ⟨k - 1, by omega⟩
    simp only [brake_Force.l0]
    have hb := ok_bounds (hG.2.1 _ (rd_mem (show i < l.length by omega)))
    rw [if_pos (by omega), if_pos (by omega), if_pos (by omega), drop_rd l i (by omega), wrap_small (by omega) (by omega)]
    generalize rd_T32 l (i : Int) = x at *
    have h2 := fun acc h0 h1 => ih k (i + 1) acc (by omega) (by omega) h0 h1
    simp only [Int.natCast_add, Int.cast_ofNat_Int] at h2
    have e := valid_f x.f0 x.f1 x.f2 x.f3 x.f4 t ⟨by omega, by omega⟩ ⟨by omega, by omega⟩ ht
    rw [e]
    simp only [Option.bind_some, forceP]
    by_cases g1 : x.f1 = kind
    · rw [if_pos g1]
      by_cases g2 : validP x.f2 x.f3 x.f4 t = true
      · rw [if_pos g2, if_pos ⟨g1, g2⟩, wrap_in ⟨by omega, by omega⟩, h2 _ (by omega) (by omega), Int.add_assoc]
      · rw [if_neg g2, if_neg (fun h => g2 h.2), h2 _ (by omega) (by omega), Int.zero_add]
    · rw [if_neg g1, if_neg (fun h => g1 h.1), h2 _ (by omega) (by omega), Int.zero_add]
theorem force_f {l : List S32} (hG : Good l) (kind : Int) {t : Int} (ht : In64 t) (k : Nat) (hk : 10 < k) : brake_Force.f k l kind t = some (forceP kind t l) := by
  unfold brake_Force.f
  have h1 := hG.1
  have := force_loop hG kind ht l.length k 0 0 (by omega) (by omega) (by omega) (by omega)
  simpa using this
theorem refforce_loop {l : List S32} (hG : Good l) (kind : Int) {t : Int} (ht : In64 t) (d : Nat) : ∀ (k i : Nat) (acc : Int), i + d = l.length → d < k → 0 ≤ acc → acc ≤ i * 10000000 →
    skiarearef15_Force.l0 k l kind t acc (i : Int) = some (acc + forceP kind t (l.drop i)) := by
  have hl := hG.1
  induction d with
  | zero =>
    intro k i acc hi hk _ _
    obtain ⟨k, rfl⟩ : ∃ m, k = m + 1 := ⟨k - 1, by omega⟩
    simp only [skiarearef15_Force.l0]
    rw [if_neg (by omega), List.drop_eq_nil_of_le (by omega)]
    simp [forceP]
  | succ d ih =>
    intro k i acc hi hk h0 h1
    obtain ⟨k, rfl⟩ : ∃ m, k = m + 1 := ⟨k - 1, by omega⟩
    simp only [skiarearef15_Force.l0]
    have hb := ok_bounds (hG.2.1 _ (rd_mem (show i < l.length by omega)))
    rw [if_pos (by omega), if_pos (by omega), drop_rd l i (by omega), wrap_small (by omega) (by omega)]
    generalize rd_T32 l (i : Int) = x at *
    have h2 := fun acc h0 h1 => ih k (i + 1) acc (by omega) (by omega) h0 h1
    simp only [Int.natCast_add, Int.cast_ofNat_Int] at h2
    have e := refvalid_f x.f0 x.f1 x.f2 x.f3 x.f4 t ⟨by omega, by omega⟩ ⟨by omega, by omega⟩ ht
    rw [e]
    simp only [Option.bind_some, forceP]
    by_cases g1 : x.f1 = kind
    · rw [if_pos g1]
      by_cases g2 : validP x.f2 x.f3 x.f4 t = true
      · rw [if_pos g2, if_pos ⟨g1, g2⟩, wrap_in ⟨by omega, by omega⟩, h2 _ (by omega) (by omega), Int.add_assoc]
      · rw [if_neg g2, if_neg (fun h => g2 h.2), h2 _ (by omega) (by omega), Int.zero_add]
    · rw [if_neg g1, if_neg (fun h => g1 h.1), h2 _ (by omega) (by omega), Int.zero_add]
theorem refforce_f {l : List S32} (hG : Good l) (kind : Int) {t : Int} (ht : In64 t) (k : Nat) (hk : 10 < k) : skiarearef15_Force.f k l kind t = some (forceP kind t l) := by
  unfold skiarearef15_Force.f
  have h1 := hG.1
  have := refforce_loop hG kind ht l.length k 0 0 (by omega) (by omega) (by omega) (by omega)
  simpa using this
def enoughP (l : List S32) (load t : Int) : Bool := decide (load ≤ forceP 0 t l ∧ load ≤ forceP 1 t l)
theorem enough_f {l : List S32} (hG : Good l) (load : Int) {t : Int} (ht : In64 t) (k : Nat) (hk : 10 < k) : brake_Enough.f k l load t = some (enoughP l load t) := by
  unfold brake_Enough.f enoughP
  rw [force_f hG 0 ht k hk, force_f hG 1 ht k hk]
  simp only [Option.bind_some]
  by_cases h : forceP 0 t l ≥ load
  · rw [if_pos h]; congr 1; rw [decide_eq_decide]; omega
  · rw [if_neg h]; congr 1; symm; rw [decide_eq_false_iff_not]; omega
theorem refenough_f {l : List S32} (hG : Good l) (load : Int) {t : Int} (ht : In64 t) (k : Nat) (hk : 10 < k) : skiarearef15_Enough.f k l load t = some (enoughP l load t) := by
  unfold skiarearef15_Enough.f enoughP
  rw [refforce_f hG 0 ht k hk, refforce_f hG 1 ht k hk]
  simp only [Option.bind_some]
  by_cases h : forceP 0 t l ≥ load
  · rw [if_pos h]; congr 1; rw [decide_eq_decide]; omega
  · rw [if_neg h]; congr 1; symm; rw [decide_eq_false_iff_not]; omega

theorem PureBrakeForces (l : List S32) (kind load t : Int) (hm : l.length ≤ maxLen) (hy : l.length * 40 ≤ 140737488351232) (hF : ∀ x ∈ l, IntsOk x) (w1 : (Lit.int .i64 kind).wf = true) (w2 : (Lit.int .i64 load).wf = true) (w3 : (Lit.int .i64 t).wf = true) :
    ∃ k, skiarealaw15_BrakeForces.f k l kind load t = some true := by
  refine ⟨300, ?_⟩
  unfold skiarealaw15_BrakeForces.f skiarealaw15_alive.f
  simp only [Option.bind_some, if_true]
  by_cases h : (l.length : Int) > 8
  · rw [if_pos h]
    simp only [skiarealaw15_BrakeForces.j0, if_true]
  · rw [if_neg h, refright_f l 300 (by omega)]
    simp only [Option.bind_some, skiarealaw15_BrakeForces.j0]
    by_cases h0 : rightP l = 0
    · have hG := good_of h0
      have ht := in64 w3
      rw [if_neg (by simp [h0]), force_f hG kind ht 299 (by omega), refforce_f hG kind ht 299 (by omega)]
      simp only [Option.bind_some, if_true]
      rw [enough_f hG load ht 299 (by omega), refenough_f hG load ht 299 (by omega)]
      simp
    · rw [if_pos (by simpa using h0)]

/-! ### Due -/
def dueP (t : Int) : List S32 → List Int
  | [] => []
  | x :: xs => if validP x.f2 x.f3 x.f4 t = true then dueP t xs else x.f0 :: dueP t xs
theorem due_loop {l : List S32} (hG : Good l) {t : Int} (ht : In64 t) (d : Nat) : ∀ (k i : Nat) (acc : List Int), i + d = l.length → d < k → acc.length ≤ i →
    brake_Due.l0 k t acc l (l.length : Int) (i : Int) = some (acc ++ dueP t (l.drop i)) := by
  have hl := hG.1
  induction d with
  | zero =>
    intro k i acc hi hk _
    obtain ⟨k, rfl⟩ : ∃ m, k = m + 1 := ⟨k - 1, by omega⟩
    simp only [brake_Due.l0]
    rw [if_neg (by omega), List.drop_eq_nil_of_le (by omega)]
    simp [dueP]
  | succ d ih =>
    intro k i acc hi hk h0
    obtain ⟨k, rfl⟩ : ∃ m, k = m + 1 := ⟨k - 1, by omega⟩
    simp only [brake_Due.l0]
    have hb := ok_bounds (hG.2.1 _ (rd_mem (show i < l.length by omega)))
    rw [if_pos (by omega), if_pos (by omega), if_pos (by omega), drop_rd l i (by omega), wrap_small (by omega) (by omega)]
    generalize rd_T32 l (i : Int) = x at *
    have h2 := fun acc h0 => ih k (i + 1) acc (by omega) (by omega) h0
    simp only [Int.natCast_add, Int.cast_ofNat_Int] at h2
    rw [valid_f x.f0 x.f1 x.f2 x.f3 x.f4 t ⟨by omega, by omega⟩ ⟨by omega, by omega⟩ ht]
    simp only [Option.bind_some, dueP]
    by_cases g2 : validP x.f2 x.f3 x.f4 t = true
    · rw [if_pos g2, if_pos g2, h2 _ (by omega)]
    · rw [if_neg g2, if_neg g2, if_pos (by omega), h2 _ (by simp; omega)]
      simp
theorem due_f {l : List S32} (hG : Good l) {t : Int} (ht : In64 t) (k : Nat) (hk : 10 < k) : brake_Due.f k l t = some (dueP t l) := by
  unfold brake_Due.f
  have h1 := hG.1
  have := due_loop hG ht l.length k 0 [] (by omega) (by omega) (by simp)
  simpa using this
theorem refdue_loop {l : List S32} (hG : Good l) {t : Int} (ht : In64 t) (d : Nat) : ∀ (k i : Nat) (acc : List Int), i + d = l.length → d < k → acc.length ≤ i →
    skiarearef15_Due.l0 k l t acc (i : Int) = some (acc ++ dueP t (l.drop i)) := by
  have hl := hG.1
  induction d with
  | zero =>
    intro k i acc hi hk _
    obtain ⟨k, rfl⟩ : ∃ m, k = m + 1 := ⟨k - 1, by omega⟩
    simp only [skiarearef15_Due.l0]
    rw [if_neg (by omega), List.drop_eq_nil_of_le (by omega)]
    simp [dueP]
  | succ d ih =>
    intro k i acc hi hk h0
    obtain ⟨k, rfl⟩ : ∃ m, k = m + 1 := ⟨k - 1, by omega⟩
    simp only [skiarearef15_Due.l0]
    have hb := ok_bounds (hG.2.1 _ (rd_mem (show i < l.length by omega)))
    rw [if_pos (by omega), if_pos (by omega), drop_rd l i (by omega), wrap_small (by omega) (by omega)]
    generalize rd_T32 l (i : Int) = x at *
    have h2 := fun acc h0 => ih k (i + 1) acc (by omega) (by omega) h0
    simp only [Int.natCast_add, Int.cast_ofNat_Int] at h2
    rw [refvalid_f x.f0 x.f1 x.f2 x.f3 x.f4 t ⟨by omega, by omega⟩ ⟨by omega, by omega⟩ ht]
    simp only [Option.bind_some, dueP]
    by_cases g2 : validP x.f2 x.f3 x.f4 t = true
    · rw [if_pos g2, if_pos g2, h2 _ (by omega)]
    · rw [if_neg g2, if_neg g2, if_pos (by omega), h2 _ (by simp; omega)]
      simp
theorem refdue_f {l : List S32} (hG : Good l) {t : Int} (ht : In64 t) (k : Nat) (hk : 10 < k) : skiarearef15_Due.f k l t = some (dueP t l) := by
  unfold skiarearef15_Due.f
  have h1 := hG.1
  have := refdue_loop hG ht l.length k 0 [] (by omega) (by omega) (by simp)
  simpa using this
theorem due_len (t : Int) : ∀ l : List S32, (dueP t l).length ≤ l.length
  | [] => by simp [dueP]
  | x :: xs => by
    simp only [dueP]
    have := due_len t xs
    split <;> simp <;> omega

theorem sameints_loop (xs : List Int) (hx : xs.length ≤ 1000) (d : Nat) : ∀ (k i : Nat), i + d = xs.length → d < k → skiarearef15_SameInts.l0 k xs xs (i : Int) = some true := by
  induction d with
  | zero =>
    intro k i hi hk
    obtain ⟨k, rfl⟩ : ∃ m, k = m + 1 := ⟨k - 1, by omega⟩
    simp only [skiarearef15_SameInts.l0]
    rw [if_neg (by omega)]
  | succ d ih =>
    intro k i hi hk
    obtain ⟨k, rfl⟩ : ∃ m, k = m + 1 := ⟨k - 1, by omega⟩
    simp only [skiarearef15_SameInts.l0]
    rw [if_pos (by omega), if_pos (by omega), if_pos (by omega), if_pos trivial, wrap_small (by omega) (by omega)]
    have h2 := ih k (i + 1) (by omega) (by omega)
    simp only [Int.natCast_add, Int.cast_ofNat_Int] at h2
    exact h2
theorem sameints_f (xs : List Int) (hx : xs.length ≤ 1000) (k : Nat) (hk : xs.length < k) : skiarearef15_SameInts.f k xs xs = some true := by
  unfold skiarearef15_SameInts.f
  rw [if_pos rfl]
  exact sameints_loop xs hx xs.length k 0 (by omega) hk
theorem same_loop (xs : List S32) (hx : xs.length ≤ 1000) (d : Nat) : ∀ (k i : Nat), i + d = xs.length → d < k → skiarearef15_Same.l0 k xs xs (i : Int) = some true := by
  induction d with
  | zero =>
    intro k i hi hk
    obtain ⟨k, rfl⟩ : ∃ m, k = m + 1 := ⟨k - 1, by omega⟩
    simp only [skiarearef15_Same.l0]
    rw [if_neg (by omega)]
  | succ d ih =>
    intro k i hi hk
    obtain ⟨k, rfl⟩ : ∃ m, k = m + 1 := ⟨k - 1, by omega⟩
    simp only [skiarearef15_Same.l0]
    rw [if_pos (by omega), if_pos (by omega), if_pos (by omega), if_neg (by simp), wrap_small (by omega) (by omega)]
    have h2 := ih k (i + 1) (by omega) (by omega)
    simp only [Int.natCast_add, Int.cast_ofNat_Int] at h2
    exact h2
theorem same_f (xs : List S32) (hx : xs.length ≤ 1000) (k : Nat) (hk : xs.length < k) : skiarearef15_Same.f k xs xs = some true := by
  unfold skiarearef15_Same.f
  rw [if_pos rfl]
  exact same_loop xs hx xs.length k 0 (by omega) hk

theorem PureBrakeDue (l : List S32) (t : Int) (hm : l.length ≤ maxLen) (hy : l.length * 40 ≤ 140737488351232) (hF : ∀ x ∈ l, IntsOk x) (w1 : (Lit.int .i64 t).wf = true) :
    ∃ k, skiarealaw15_BrakeDue.f k l t = some true := by
  refine ⟨300, ?_⟩
  unfold skiarealaw15_BrakeDue.f skiarealaw15_alive.f
  simp only [Option.bind_some, if_true]
  by_cases h : (l.length : Int) > 8
  · rw [if_pos h]
  · rw [if_neg h, refright_f l 300 (by omega)]
    simp only [Option.bind_some]
    by_cases h0 : rightP l = 0
    · have hG := good_of h0
      have ht := in64 w1
      have hd := due_len t l
      rw [if_pos h0, due_f hG ht 300 (by omega), refdue_f hG ht 300 (by omega)]
      simp only [Option.bind_some]
      rw [sameints_f _ (by omega) 300 (by omega)]
      rfl
    · rw [if_neg h0]

/-! ### Test -/
theorem find_cases (id : Int) : ∀ (l : List S32) (s : Nat), (hasId id l = false ∧ findGo id l (s : Int) = -1) ∨ (hasId id l = true ∧ ∃ j : Nat, j < l.length ∧ findGo id l (s : Int) = ((s + j : Nat) : Int))
  | [], s => .inl ⟨rfl, rfl⟩
  | x :: xs, s => by
    simp only [hasId, List.any_cons, findGo]
    by_cases h : x.f0 = id
    · rw [if_pos h]
      exact .inr ⟨by simp [h], 0, by simp, by simp⟩
    · rw [if_neg h]
      have e : ((s : Int) + 1) = ((s + 1 : Nat) : Int) := by omega
      rw [e]
      rcases find_cases id xs (s + 1) with ⟨h1, h2⟩ | ⟨h1, j, hj, h2⟩
      · left
        exact ⟨by simpa [hasId, h] using h1, h2⟩
      · right
        exact ⟨by simp only [hasId] at h1; simp [h1], j + 1, by simp; omega, by rw [h2]; congr 1; omega⟩

def testP (l : List S32) (id m t : Int) : List S32 × Int :=
  if findGo id l 0 < 0 then ([], 8)
  else if ¬ (0 ≤ m ∧ m ≤ 10000000 ∧ 0 ≤ t ∧ t ≤ 20000000) then ([], 2)
  else if t < (rd_T32 l (findGo id l 0)).f3 then ([], 11)
  else (l.set (findGo id l 0).toNat ⟨(rd_T32 l (findGo id l 0)).f0, (rd_T32 l (findGo id l 0)).f1, (rd_T32 l (findGo id l 0)).f2, t, m⟩, 0)

theorem rd_set (l : List S32) (j : Nat) (x : S32) (h : j < l.length) : rd_T32 (l.set j x) (j : Int) = x := by
  unfold rd_T32
  simp [List.getD_eq_getElem?_getD, h]

theorem clone_f (l : List S32) (h : l.length ≤ 8) : api_Brake_28.f l = some l := by
  unfold api_Brake_28.f
  simp
  omega

theorem test_f (l : List S32) (hl : l.length ≤ 8) (id m t : Int) (k : Nat) : brake_Test.f (k + 1) l id m t = some (testP l id m t) := by
  unfold brake_Test.f testP brake_find.f
  simp only [Option.bind_some, within_f]
  rcases find_cases id l 0 with ⟨_, e⟩ | ⟨_, j, hj, e⟩
  · have e' : findGo id l 0 = -1 := e
    rw [e', if_pos (by omega), if_pos (by omega)]
  · have e' : findGo id l 0 = (j : Int) := by have := e; simpa using this
    have hj0 : ¬ ((j : Int) < 0) := by omega
    rw [e']
    simp only [if_neg hj0]
    by_cases g1 : 0 ≤ m ∧ m ≤ 10000000
    · rw [show decide (0 ≤ m ∧ m ≤ 10000000) = true by simpa using g1]
      simp only [if_true]
      by_cases g2 : 0 ≤ t ∧ t ≤ 20000000
      · rw [show decide (0 ≤ t ∧ t ≤ 20000000) = true by simpa using g2]
        have hall : ¬ ¬ (0 ≤ m ∧ m ≤ 10000000 ∧ 0 ≤ t ∧ t ≤ 20000000) := by omega
        simp only [if_neg hall, Bool.not_true, brake_Test.j0, Bool.false_eq_true, if_false]
        have hj1 : (0 : Int) ≤ (j : Int) := by omega
        have hj2 : (j : Int) < (l.length : Int) := by omega
        simp only [if_pos hj1, if_pos hj2, clone_f l hl, Option.bind_some, Int.toNat_natCast]
        by_cases g3 : t < (rd_T32 l (j : Int)).f3
        · simp only [if_pos g3]
        · simp only [if_neg g3, rd_set l j _ hj, List.set_set]
      · rw [show decide (0 ≤ t ∧ t ≤ 20000000) = false by simpa using g2]
        have hall : ¬ (0 ≤ m ∧ m ≤ 10000000 ∧ 0 ≤ t ∧ t ≤ 20000000) := by omega
        simp only [if_pos hall, Bool.not_false, brake_Test.j0, if_true]
    · rw [show decide (0 ≤ m ∧ m ≤ 10000000) = false by simpa using g1]
      have hall : ¬ (0 ≤ m ∧ m ≤ 10000000 ∧ 0 ≤ t ∧ t ≤ 20000000) := by omega
      simp only [if_pos hall, brake_Test.j0, if_true, Bool.false_eq_true, if_false]

theorem reftest_end (l : List S32) (hl : l.length ≤ 8) (m t : Int) (at_ : Int) (hat : at_ = -1 ∨ ∃ j : Nat, j < l.length ∧ at_ = (j : Int)) (k : Nat) :
    (if at_ < 0 then (some (([] : List (S32)), 8)) else (if m < 0 then (skiarearef15_Test.j1 (k + 1) l m t at_ true) else (if m > 10000000 then (skiarearef15_Test.j1 (k + 1) l m t at_ true) else (if t < 0 then (skiarearef15_Test.j1 (k + 1) l m t at_ true) else (skiarearef15_Test.j1 (k + 1) l m t at_ (decide (t > 20000000))))))) =
    some (if at_ < 0 then (([] : List S32), (8 : Int)) else if ¬ (0 ≤ m ∧ m ≤ 10000000 ∧ 0 ≤ t ∧ t ≤ 20000000) then ([], 2) else if t < (rd_T32 l at_).f3 then ([], 11)
      else (l.set at_.toNat ⟨(rd_T32 l at_).f0, (rd_T32 l at_).f1, (rd_T32 l at_).f2, t, m⟩, 0)) := by
  have bad : ∀ b : Bool, b = true → skiarearef15_Test.j1 (k + 1) l m t at_ b = some ([], 2) := fun b hb => by simp only [skiarearef15_Test.j1]; rw [if_pos hb]
  by_cases g0 : at_ < 0
  · rw [if_pos g0, if_pos g0]
  · rw [if_neg g0, if_neg g0]
    obtain ⟨j, hj, rfl⟩ : ∃ j : Nat, j < l.length ∧ at_ = (j : Int) := by
      rcases hat with h | h
      · omega
      · exact h
    by_cases g1 : m < 0
    · rw [if_pos g1, bad _ rfl, if_pos (by omega)]
    · rw [if_neg g1]
      by_cases g2 : m > 10000000
      · rw [if_pos g2, bad _ rfl, if_pos (by omega)]
      · rw [if_neg g2]
        by_cases g3 : t < 0
        · rw [if_pos g3, bad _ rfl, if_pos (by omega)]
        · rw [if_neg g3]
          by_cases g4 : t > 20000000
          · rw [bad _ (by simpa using g4), if_pos (by omega)]
          · rw [if_neg (by omega)]
            simp only [skiarearef15_Test.j1]
            rw [if_neg (by simpa using g4), if_pos (by omega), if_pos (by omega)]
            by_cases g5 : t < (rd_T32 l (j : Int)).f3
            · rw [if_pos g5, if_pos g5]
            · rw [if_neg g5, if_neg g5]
              simp only [Option.bind_some, List.nil_append, Int.toNat_natCast, List.length_nil]
              rw [if_pos (by omega), if_pos (by omega), rd_set l j _ hj, List.set_set]

theorem reftest_loop {l : List S32} (hG : Good l) (id m t : Int) (d : Nat) : ∀ (k i : Nat) (at_ : Int), i + d = l.length → d + 1 < k → (hasId id (l.drop i) = true → at_ = -1) → (at_ = -1 ∨ ∃ j : Nat, j < l.length ∧ at_ = (j : Int)) →
    skiarearef15_Test.l0 k l id m t at_ (i : Int) = some (
      if (if hasId id (l.drop i) = true then findGo id (l.drop i) i else at_) < 0 then (([] : List S32), (8 : Int)) else if ¬ (0 ≤ m ∧ m ≤ 10000000 ∧ 0 ≤ t ∧ t ≤ 20000000) then ([], 2) else if t < (rd_T32 l (if hasId id (l.drop i) = true then findGo id (l.drop i) i else at_)).f3 then ([], 11)
      else (l.set (if hasId id (l.drop i) = true then findGo id (l.drop i) i else at_).toNat ⟨(rd_T32 l (if hasId id (l.drop i) = true then findGo id (l.drop i) i else at_)).f0, (rd_T32 l (if hasId id (l.drop i) = true then findGo id (l.drop i) i else at_)).f1, (rd_T32 l (if hasId id (l.drop i) = true then findGo id (l.drop i) i else at_)).f2, t, m⟩, 0)) := by
  have hl := hG.1
  induction d with
  | zero =>
    intro k i at_ hi hk _ hat
    obtain ⟨k, rfl⟩ : ∃ m, k = m + 2 := ⟨k - 2, by omega⟩
    have hn : l.drop i = [] := List.drop_eq_nil_of_le (by omega)
    rw [hn]
    simp only [hasId, List.any_nil, Bool.false_eq_true, if_false]
    simp only [skiarearef15_Test.l0]
    rw [if_neg (by omega)]
    exact reftest_end l hl m t at_ hat k
  | succ d ih =>
    intro k i at_ hi hk hu hat
    obtain ⟨k, rfl⟩ : ∃ m, k = m + 1 := ⟨k - 1, by omega⟩
    simp only [skiarearef15_Test.l0]
    have hd := drop_rd l i (by omega)
    have hpw : (l.drop i).Pairwise (fun x y => x.f0 ≠ y.f0) := hG.2.2.sublist (List.drop_sublist _ _)
    rw [hd] at hpw hu ⊢
    rw [if_pos (by omega), if_pos (by omega), wrap_small (by omega) (by omega)]
    rw [List.pairwise_cons] at hpw
    have h2 := fun at_ h h' => ih k (i + 1) at_ (by omega) (by omega) h h'
    simp only [Int.natCast_add, Int.cast_ofNat_Int] at h2
    have hc : ∀ x xs, hasId id (x :: xs) = (decide (x.f0 = id) || hasId id xs) := fun x xs => rfl
    generalize rd_T32 l (i : Int) = x at hpw hu ⊢
    by_cases he : x.f0 = id
    · have hno : hasId id (l.drop (i + 1)) = false := by
        unfold hasId
        rw [List.any_eq_false]
        intro y hy
        have := hpw.1 y hy
        rw [he] at this
        simpa using fun h => this h.symm
      rw [if_pos he, h2 (i : Int) (by rw [hno]; intro h; cases h) (.inr ⟨i, by omega, rfl⟩)]
      have e1 : hasId id (x :: l.drop (i + 1)) = true := by rw [hc]; simp [he]
      have e2 : findGo id (x :: l.drop (i + 1)) (i : Int) = (i : Int) := by simp only [findGo]; rw [if_pos he]
      simp only [hno, e1, e2, Bool.false_eq_true, if_false, if_true]
    · have e1 : hasId id (x :: l.drop (i + 1)) = hasId id (l.drop (i + 1)) := by rw [hc]; simp [he]
      have e2 : findGo id (x :: l.drop (i + 1)) (i : Int) = findGo id (l.drop (i + 1)) ((i : Int) + 1) := by simp only [findGo]; rw [if_neg he]
      rw [e1] at hu
      rw [if_neg he, h2 at_ hu hat]
      simp only [e1, e2]

theorem reftest_f {l : List S32} (hG : Good l) (id m t : Int) (k : Nat) (hk : 20 < k) : skiarearef15_Test.f k l id m t = some (testP l id m t) := by
  unfold skiarearef15_Test.f
  have hl := hG.1
  have h := reftest_loop hG id m t l.length k 0 (-1) (by omega) (by omega) (fun _ => rfl) (.inl rfl)
  have h' : skiarearef15_Test.l0 k l id m t (-1) 0 = _ := h
  rw [h', List.drop_zero]
  have e : (if hasId id l = true then findGo id l ((0 : Nat) : Int) else -1) = findGo id l 0 := by
    rcases find_cases id l 0 with ⟨h1, h2⟩ | ⟨h1, _⟩
    · rw [if_neg (by simp [h1])]; exact h2.symm
    · rw [if_pos h1]; rfl
  simp only [e]
  rfl

theorem test_len (l : List S32) (id m t : Int) : (testP l id m t).1.length ≤ l.length := by
  unfold testP
  split
  · simp
  · split
    · simp
    · split <;> simp

theorem PureBrakeTests (l : List S32) (id m t : Int) (hm : l.length ≤ maxLen) (hy : l.length * 40 ≤ 140737488351232) (hF : ∀ x ∈ l, IntsOk x) (w1 : (Lit.int .i64 id).wf = true) (w2 : (Lit.int .i64 m).wf = true) (w3 : (Lit.int .i64 t).wf = true) :
    ∃ k, skiarealaw15_BrakeTests.f k l id m t = some true := by
  refine ⟨300, ?_⟩
  unfold skiarealaw15_BrakeTests.f skiarealaw15_alive.f
  simp only [Option.bind_some, if_true]
  by_cases h : (l.length : Int) > 8
  · rw [if_pos h]
    simp only [skiarealaw15_BrakeTests.j0, if_true]
  · rw [if_neg h, refright_f l 300 (by omega)]
    simp only [Option.bind_some, skiarealaw15_BrakeTests.j0]
    by_cases h0 : rightP l = 0
    · have hG := good_of h0
      have hn := test_len l id m t
      rw [if_neg (by simp [h0]), test_f l hG.1 id m t 298, reftest_f hG id m t 299 (by omega)]
      simp only [Option.bind_some, if_true]
      rw [same_f _ (by omega) 299 (by omega)]
      rfl
    · rw [if_pos (by simpa using h0)]

/-! ### Loads -/
def sumK (kind : Int) : List S32 → Int
  | [] => 0
  | x :: xs => (if x.f1 = kind then x.f4 else 0) + sumK kind xs
theorem force_le {t : Int} (kind : Int) : ∀ l : List S32, (∀ x ∈ l, okB x = true) → forceP kind t l ≤ sumK kind l
  | [], _ => by simp [forceP, sumK]
  | x :: xs, h => by
    have h1 := force_le (t := t) kind xs (fun y hy => h y (List.mem_cons_of_mem _ hy))
    have hb := ok_bounds (h x List.mem_cons_self)
    simp only [forceP, sumK]
    by_cases g1 : x.f1 = kind
    · rw [if_pos g1]
      split <;> omega
    · rw [if_neg g1, if_neg (fun h => g1 h.1)]
      omega
theorem force_all {t : Int} (kind : Int) : ∀ l : List S32, dueP t l = [] → forceP kind t l = sumK kind l
  | [], _ => rfl
  | x :: xs, h => by
    simp only [dueP] at h
    by_cases hv : validP x.f2 x.f3 x.f4 t = true
    · rw [if_pos hv] at h
      have := force_all kind xs h
      simp only [forceP, sumK, this, hv, and_true]
    · rw [if_neg hv] at h; cases h

theorem loads_end {l : List S32} (hG : Good l) {t load : Int} (ht : In64 t) (k : Nat) (hk : 10 < k) (ok : Bool) (hok : ok = enoughP l load t) :
    ((brake_Due.f k l t).bind fun t254 => (if (t254.length : Int) = 0 then ((brake_Force.f k l 0 t).bind fun t257 => (if t257 = sumK 0 l then ((brake_Force.f k l 1 t).bind fun t258 => (if t258 = sumK 1 l then (if ok = true then (if load ≤ sumK 0 l then (some (decide (load ≤ sumK 1 l))) else (some false)) else (some true)) else (some false))) else (some false))) else (if ok = true then (if load ≤ sumK 0 l then (some (decide (load ≤ sumK 1 l))) else (some false)) else (some true)))) = some true := by
  rw [due_f hG ht k hk, force_f hG 0 ht k hk, force_f hG 1 ht k hk]
  simp only [Option.bind_some]
  have fin : (if ok = true then (if load ≤ sumK 0 l then (some (decide (load ≤ sumK 1 l))) else (some false)) else (some true)) = some true := by
    by_cases ho : ok = true
    · rw [if_pos ho]
      rw [ho] at hok
      have he := hok.symm
      unfold enoughP at he
      rw [decide_eq_true_eq] at he
      have f0 := force_le (t := t) 0 l hG.2.1
      have f1 := force_le (t := t) 1 l hG.2.1
      rw [if_pos (by omega)]
      congr 1
      rw [decide_eq_true_eq]
      omega
    · rw [if_neg ho]
  by_cases hd : ((dueP t l).length : Int) = 0
  · have hn : dueP t l = [] := List.eq_nil_of_length_eq_zero (by omega)
    rw [if_pos hd, if_pos (force_all 0 l hn), if_pos (force_all 1 l hn)]
    exact fin
  · rw [if_neg hd]
    exact fin

theorem loads_loop {l : List S32} (hG : Good l) {t load : Int} (ht : In64 t) (ok : Bool) (hok : ok = enoughP l load t) (d : Nat) : ∀ (k i : Nat) (a b : Int), i + d = l.length → d + 20 < k → 0 ≤ a → a ≤ i * 10000000 → 0 ≤ b → b ≤ i * 10000000 →
    a + sumK 0 (l.drop i) = sumK 0 l → b + sumK 1 (l.drop i) = sumK 1 l → skiarealaw15_BrakeLoads.l0 k l load t ok a b (i : Int) = some true := by
  have hl := hG.1
  induction d with
  | zero =>
    intro k i a b hi hk _ _ _ _ ha hb
    obtain ⟨k, rfl⟩ : ∃ m, k = m + 1 := ⟨k - 1, by omega⟩
    rw [List.drop_eq_nil_of_le (by omega)] at ha hb
    simp only [sumK, Int.add_zero] at ha hb
    subst ha
    subst hb
    simp only [skiarealaw15_BrakeLoads.l0]
    rw [if_neg (by omega)]
    exact loads_end hG ht k (by omega) ok hok
  | succ d ih =>
    intro k i a b hi hk a0 a1 b0 b1 ha hb
    obtain ⟨k, rfl⟩ : ∃ m, k = m + 1 := ⟨k - 1, by omega⟩
    simp only [skiarealaw15_BrakeLoads.l0]
    have hx := ok_bounds (hG.2.1 _ (rd_mem (show i < l.length by omega)))
    rw [if_pos (by omega), if_pos (by omega), wrap_small (by omega) (by omega)]
    rw [drop_rd l i (by omega)] at ha hb
    generalize rd_T32 l (i : Int) = x at *
    simp only [sumK] at ha hb
    have h2 := fun a b p q r s u v => ih k (i + 1) a b (by omega) (by omega) p q r s u v
    simp only [Int.natCast_add, Int.cast_ofNat_Int] at h2
    by_cases g : x.f1 = 0
    · rw [if_pos g] at ha ⊢
      rw [if_neg (by omega)] at hb
      rw [wrap_in ⟨by omega, by omega⟩]
      exact h2 _ _ (by omega) (by omega) (by omega) (by omega) (by omega) (by omega)
    · rw [if_neg g] at ha ⊢
      rw [if_pos (by omega)] at hb
      rw [wrap_in ⟨by omega, by omega⟩]
      exact h2 _ _ (by omega) (by omega) (by omega) (by omega) (by omega) (by omega)

theorem PureBrakeLoads (l : List S32) (load t less : Int) (hm : l.length ≤ maxLen) (hy : l.length * 40 ≤ 140737488351232) (hF : ∀ x ∈ l, IntsOk x) (w1 : (Lit.int .i64 load).wf = true) (w2 : (Lit.int .i64 t).wf = true) (w3 : (Lit.int .u16 less).wf = true) :
    ∃ k, skiarealaw15_BrakeLoads.f k l load t less = some true := by
  refine ⟨300, ?_⟩
  have b1 := bounds_u16 w3
  have b2 := in64 w1
  have ht := in64 w2
  unfold skiarealaw15_BrakeLoads.f skiarealaw15_alive.f
  simp only [Option.bind_some, if_true]
  have skip : skiarealaw15_BrakeLoads.j0 300 l load t less true = some true := by simp only [skiarealaw15_BrakeLoads.j0, if_true]
  by_cases h : (l.length : Int) > 8
  · rw [if_pos h]; exact skip
  · rw [if_neg h, right_f l 300 (by omega)]
    simp only [Option.bind_some]
    by_cases h0 : rightP l = 0
    · rw [if_pos h0]
      have hG := good_of h0
      by_cases g : load < -1000000000
      · rw [show decide (load < -1000000000) = true by simpa using g]; exact skip
      · rw [show decide (load < -1000000000) = false by simpa using g]
        unfold In64 at b2
        have e1 : wrap64 (load - wrap64 less) = load - less := by rw [wrap_in (a := less) ⟨by omega, by omega⟩, wrap_in ⟨by omega, by omega⟩]
        simp only [skiarealaw15_BrakeLoads.j0]
        rw [if_neg (by simp), enough_f hG load ht 299 (by omega), e1, enough_f hG (load - less) ht 299 (by omega)]
        simp only [Option.bind_some]
        have go : skiarealaw15_BrakeLoads.j1 299 l load t (enoughP l load t) false = some true := by
          simp only [skiarealaw15_BrakeLoads.j1]
          rw [if_neg (by simp)]
          have := hG.1
          exact loads_loop hG ht (enoughP l load t) rfl l.length 298 0 0 0 (by omega) (by omega) (by omega) (by omega) (by omega) (by omega) (by simp) (by simp)
        by_cases he : enoughP l load t = true
        · have h3 : enoughP l (load - less) t = true := by
            unfold enoughP at he ⊢
            rw [decide_eq_true_eq] at he ⊢
            omega
          rw [if_pos he, h3]
          exact go
        · rw [if_neg he]
          exact go
    · rw [if_neg h0]; exact skip

end Go.Proofs.Ytkkkfjbcefpjpaa.A

/- The printed functions of layer 58 (network) against plain ones. -/
import Derived.Test.YtlaheldjlfckkaaHParts
import Derived.Test.YtlaheldjlfckkaaHCloneInts
import Derived.Test.YtlaheldjlfckkaaHCloneBytes
import Derived.Test.YtlaheldjlfckkaaAx4
import Derived.Test.YtlaheldjlfckkaaAx5
import Derived.Test.YtlaheldjlfckkaaAx6
import Derived.Test.YtlaheldjlfckkaaAx7
import Derived.Test.YtlaheldjlfckkaaAx13
namespace Go.Proofs.Ytlaheldjlfckkaa.A
open Go.RowKit Go.Proofs.YtlaheldjlfckkaaW.PrintWords Go.Proofs.YtlaheldjlfckkaaW.PrintLast Go.Proofs.YtlaheldjlfckkaaW.PrintMore
set_option linter.unusedVariables false
set_option linter.unusedSimpArgs false

theorem wrap_small {i : Int} (h0 : 0 ≤ i) (h1 : i ≤ 1000000000000) : wrap64 (i + 1) = i + 1 := by
  unfold wrap64
  omega
theorem drop_rd (l : List S39) (i : Nat) (h : i < l.length) : l.drop i = rd_T39 l (i : Int) :: l.drop (i + 1) := by
  rw [List.drop_eq_getElem_cons h]
  unfold rd_T39
  simp [List.getD_eq_getElem?_getD, h]
theorem rd_mem {l : List S39} {i : Nat} (h : i < l.length) : rd_T39 l (i : Int) ∈ l := by
  have : rd_T39 l (i : Int) = l[i] := by unfold rd_T39; simp [List.getD_eq_getElem?_getD, h]
  rw [this]
  exact List.getElem_mem h

/-! ### plain functions -/
def siteP (P : List Int) (a : Int) : Bool := decide (0 ≤ a ∧ a < P.length)
def msgP (P : List Int) (a b : Int) (body : List Int) : Int :=
  if (siteP P a && siteP P b) = true then (if a = b then 1 else if 2000 < body.length then 4 else 0) else 8
def canP (P : List Int) (a b : Int) : Bool := siteP P a && siteP P b && (rd P a == rd P b)
def rightGo (P : List Int) : List S39 → Int
  | [] => 0
  | m :: ms => if msgP P m.f0 m.f1 m.f2 = 0 then rightGo P ms else msgP P m.f0 m.f1 m.f2
def rightP (P : List Int) (M : List S39) : Int :=
  if P.length < 1 ∨ 16 < P.length ∨ P.all okPart = false then 2 else if 256 < M.length then 4 else rightGo P M
/-- The messages but the one with the index i; j: the first one's index. -/
def skip (i : Int) : Int → List S39 → List S39
  | _, [] => []
  | j, m :: ms => if j = i then skip i (j + 1) ms else m :: skip i (j + 1) ms
def sendP (P : List Int) (M : List S39) (a b : Int) (body : List Int) : List Int × List S39 × Int :=
  if msgP P a b body = 0 then (if 256 ≤ M.length then ([], [], 9) else (P, M ++ [⟨a, b, body⟩], 0)) else ([], [], msgP P a b body)
def indexP (M : List S39) (i : Int) : Bool := decide (0 ≤ i ∧ i < M.length)
def deliverP (P : List Int) (M : List S39) (i : Int) : List Int × List S39 × Int × Int × List Int × Int :=
  if indexP M i = true then (if canP P (rd_T39 M i).f0 (rd_T39 M i).f1 = true then (P, skip i 0 M, (rd_T39 M i).f0, (rd_T39 M i).f1, (rd_T39 M i).f2, 0) else ([], [], 0, 0, [], 13)) else ([], [], 0, 0, [], 8)
def loseP (P : List Int) (M : List S39) (i : Int) : List Int × List S39 × Int :=
  if indexP M i = true then (P, skip i 0 M, 0) else ([], [], 8)
def copyP (P : List Int) (M : List S39) (i : Int) : List Int × List S39 × Int :=
  if indexP M i = true then (if 256 ≤ M.length then ([], [], 9) else (P, M ++ [rd_T39 M i], 0)) else ([], [], 8)
def splitP (P : List Int) (M : List S39) (l : List Int) : List Int × List S39 × Int :=
  if l.length = P.length ∧ l.all okPart = true then (l, M, 0) else ([], [], 1)
def newP (sites : Int) : List Int × List S39 × Int := if sites < 1 ∨ 16 < sites then ([], [], 2) else (List.replicate sites.toNat 0, [], 0)

/-- Bounds within which nothing that is made is too great. -/
def Small (P : List Int) (M : List S39) : Prop := P.length ≤ 1000 ∧ M.length ≤ 1000 ∧ ∀ m ∈ M, m.f2.length ≤ 1000000

/-! ### the program's functions -/
theorem site_f (P : List Int) (M : List S39) (a : Int) : network_site.f P M a = some (siteP P a) := by
  unfold network_site.f siteP
  by_cases h : a ≥ 0
  · rw [if_pos h]; congr 1; rw [decide_eq_decide]; omega
  · rw [if_neg h]; congr 1; symm; rw [decide_eq_false_iff_not]; omega
theorem site_bounds {P : List Int} {a : Int} (h : siteP P a = true) : 0 ≤ a ∧ a < P.length := by
  unfold siteP at h
  simpa using h
theorem can_f (P : List Int) (M : List S39) (a b : Int) : network_Can.f P M a b = some (canP P a b) := by
  unfold network_Can.f canP
  rw [site_f, site_f]
  simp only [Option.bind_some]
  cases h1 : siteP P a with
  | false => simp
  | true =>
    cases h2 : siteP P b with
    | false => simp
    | true =>
      have b1 := site_bounds h1
      have b2 := site_bounds h2
      simp only [if_true, Bool.and_self, Bool.true_and]
      rw [if_pos b1.1, if_pos b1.2, if_pos b2.1, if_pos b2.2]
theorem index_f (P : List Int) (M : List S39) (i : Int) : network_index.f P M i = some (indexP M i) := by
  unfold network_index.f indexP
  by_cases h : i ≥ 0
  · rw [if_pos h]; congr 1; rw [decide_eq_decide]; omega
  · rw [if_neg h]; congr 1; symm; rw [decide_eq_false_iff_not]; omega
theorem index_bounds {M : List S39} {i : Int} (h : indexP M i = true) : 0 ≤ i ∧ i < M.length := by
  unfold indexP at h
  simpa using h
theorem message_f (P : List Int) (M : List S39) (a b : Int) (body : List Int) (k : Nat) (hk : 0 < k) : network_message.f k P M a b body = some (msgP P a b body) := by
  obtain ⟨k, rfl⟩ : ∃ m, k = m + 1 := ⟨k - 1, by omega⟩
  unfold network_message.f msgP
  rw [site_f, site_f]
  simp only [Option.bind_some]
  cases h1 : siteP P a with
  | false => simp [network_message.j0]
  | true =>
    cases h2 : siteP P b with
    | false => simp [network_message.j0]
    | true =>
      simp only [if_true, Bool.and_self, Bool.not_true, network_message.j0, Bool.false_eq_true, if_false]
      by_cases h3 : a = b
      · rw [if_pos h3, if_pos h3]
      · rw [if_neg h3, if_neg h3]
        by_cases h4 : 2000 < body.length
        · rw [if_pos (by omega), if_pos h4]
        · rw [if_neg (by omega), if_neg h4]
theorem cloneb_f (l : List Int) (h : l.length ≤ 1000000) : slices_Clone_byte_byte.f l = some l := by
  unfold slices_Clone_byte_byte.f
  simp
  omega
theorem clonei_f (l : List Int) (h : l.length ≤ 1000) : slices_Clone_int_int.f l = some l := by
  unfold slices_Clone_int_int.f
  simp
  omega
theorem copied_f (a b : Int) (l : List Int) (h : l.length ≤ 1000000) : network_copied.f a b l = some (a, b, l) := by
  unfold network_copied.f
  rw [cloneb_f l h]
  rfl

theorem own_loop (P : List Int) {M : List S39} (hM : M.length ≤ 1000 ∧ ∀ m ∈ M, m.f2.length ≤ 1000000) (i : Int) (d : Nat) : ∀ (k j : Nat) (acc : List S39), j + d = M.length → d < k → acc.length ≤ j →
    network_own.l0 k i M (M.length : Int) (j : Int) P acc = some (P, acc ++ skip i j (M.drop j)) := by
  induction d with
  | zero =>
    intro k j acc hj hk ha
    obtain ⟨k, rfl⟩ : ∃ m, k = m + 1 := ⟨k - 1, by omega⟩
    simp only [network_own.l0]
    rw [if_neg (by omega), List.drop_eq_nil_of_le (by omega)]
    simp [skip]
  | succ d ih =>
    intro k j acc hj hk ha
    obtain ⟨k, rfl⟩ : ∃ m, k = m + 1 := ⟨k - 1, by omega⟩
    have hl := hM.1
    simp only [network_own.l0]
    have hb := hM.2 _ (rd_mem (show j < M.length by omega))
    rw [if_pos (by omega), if_pos (by omega), if_pos (by omega), drop_rd M j (by omega), wrap_small (by omega) (by omega)]
    generalize rd_T39 M (j : Int) = x at *
    have h2 := fun acc h => ih k (j + 1) acc (by omega) (by omega) h
    simp only [Int.natCast_add, Int.cast_ofNat_Int] at h2
    simp only [skip]
    by_cases he : (j : Int) = i
    · rw [if_pos he, if_pos he, h2 acc (by omega)]
    · rw [if_neg he, if_neg he, copied_f _ _ _ hb]
      simp only [Option.bind_some]
      rw [if_pos (by omega), h2 _ (by simp; omega)]
      simp
theorem own_f {P : List Int} {M : List S39} (hS : Small P M) (i : Int) (k : Nat) (hk : 1000 < k) : network_own.f k P M i = some (P, skip i 0 M) := by
  unfold network_own.f
  rw [clonei_f P hS.1]
  simp only [Option.bind_some]
  have h1 := hS.2.1
  have := own_loop P ⟨hS.2.1, hS.2.2⟩ i M.length k 0 [] (by omega) (by omega) (by simp)
  simpa using this
theorem skip_none (i : Int) : ∀ (M : List S39) (j : Int), i < j → skip i j M = M
  | [], _, _ => rfl
  | m :: ms, j, h => by
    simp only [skip]
    rw [if_neg (by omega), skip_none i ms (j + 1) (by omega)]

theorem send_f {P : List Int} {M : List S39} (hS : Small P M) (a b : Int) (body : List Int) (hb : body.length ≤ 1000000) (k : Nat) (hk : 1000 < k) : network_Send.f k P M a b body = some (sendP P M a b body) := by
  unfold network_Send.f sendP
  have h1 := hS.2.1
  rw [message_f P M a b body k (by omega)]
  simp only [Option.bind_some]
  by_cases h : msgP P a b body = 0
  · rw [if_pos h, if_pos h]
    by_cases h2 : 256 ≤ M.length
    · rw [if_pos (by omega), if_pos h2]
    · rw [if_neg (by omega), if_neg h2, own_f hS (-1) k hk, copied_f a b body hb, skip_none (-1) M 0 (by omega)]
      simp only [Option.bind_some]
      rw [if_pos (by omega)]
  · rw [if_neg h, if_neg h]
theorem rd_small {P : List Int} {M : List S39} (hS : Small P M) {i : Int} (h : indexP M i = true) : (rd_T39 M i).f2.length ≤ 1000000 := by
  obtain ⟨h0, h1⟩ := index_bounds h
  obtain ⟨j, rfl⟩ := Int.eq_ofNat_of_zero_le h0
  exact hS.2.2 _ (rd_mem (by omega))
theorem deliver_f {P : List Int} {M : List S39} (hS : Small P M) (i : Int) (k : Nat) (hk : 1000 < k) : network_Deliver.f k P M i = some (deliverP P M i) := by
  unfold network_Deliver.f deliverP
  rw [index_f]
  simp only [Option.bind_some]
  cases h : indexP M i with
  | false => simp
  | true =>
    obtain ⟨h0, h1⟩ := index_bounds h
    simp only [if_true]
    rw [if_pos h0, if_pos h1, can_f]
    simp only [Option.bind_some]
    cases h2 : canP P (rd_T39 M i).f0 (rd_T39 M i).f1 with
    | false => simp
    | true =>
      simp only [if_true]
      rw [own_f hS i k hk, copied_f _ _ _ (rd_small hS h)]
      rfl
theorem lose_f {P : List Int} {M : List S39} (hS : Small P M) (i : Int) (k : Nat) (hk : 1000 < k) : network_Lose.f k P M i = some (loseP P M i) := by
  unfold network_Lose.f loseP
  rw [index_f]
  simp only [Option.bind_some]
  cases h : indexP M i with
  | false => simp
  | true =>
    simp only [if_true]
    rw [own_f hS i k hk]
    rfl
theorem copy_f {P : List Int} {M : List S39} (hS : Small P M) (i : Int) (k : Nat) (hk : 1000 < k) : network_Copy.f k P M i = some (copyP P M i) := by
  unfold network_Copy.f copyP
  have hl := hS.2.1
  rw [index_f]
  simp only [Option.bind_some]
  cases h : indexP M i with
  | false => simp
  | true =>
    obtain ⟨h0, h1⟩ := index_bounds h
    simp only [if_true]
    by_cases h2 : 256 ≤ M.length
    · rw [if_pos (by omega), if_pos h2]
    · rw [if_neg (by omega), if_neg h2, own_f hS (-1) k hk, skip_none (-1) M 0 (by omega)]
      simp only [Option.bind_some]
      rw [if_pos h0, if_pos h1, copied_f _ _ _ (rd_small hS h)]
      simp only [Option.bind_some]
      rw [if_pos (by omega)]
theorem split_f {P : List Int} {M : List S39} (hS : Small P M) (l : List Int) (k : Nat) (hk : 1001 < k) : network_Split.f k P M l = some (splitP P M l) := by
  obtain ⟨k, rfl⟩ : ∃ m, k = m + 1 := ⟨k - 1, by omega⟩
  unfold network_Split.f splitP network_parts.f
  simp only [Option.bind_some]
  have h1 := hS.1
  by_cases h : l.length = P.length
  · rw [if_pos (by omega)]
    cases h2 : l.all okPart with
    | false => simp [network_Split.j0]
    | true =>
      simp only [Bool.not_true, network_Split.j0, Bool.false_eq_true, if_false, h, true_and, if_true]
      rw [own_f hS (-1) k (by omega), clonei_f l (by omega), skip_none (-1) M 0 (by omega)]
      rfl
  · rw [if_neg (by omega)]
    simp [network_Split.j0, h]
theorem new_f (sites : Int) : network_New.f sites = some (newP sites) := by
  unfold network_New.f newP
  by_cases h1 : sites < 1
  · rw [if_pos h1, if_pos (by omega)]
  · rw [if_neg h1]
    by_cases h2 : sites > 16
    · rw [if_pos h2, if_pos (by omega)]
    · rw [if_neg h2, if_pos (by omega), if_pos (by omega), if_neg (by omega)]
theorem refnew_f (sites : Int) : skiarearef58_New.f sites = some (newP sites) := by
  unfold skiarearef58_New.f newP
  by_cases h1 : sites < 1
  · rw [if_pos h1, if_pos (by omega)]
  · rw [if_neg h1]
    by_cases h2 : sites > 16
    · rw [if_pos h2, if_pos (by omega)]
    · rw [if_neg h2, if_pos (by omega), if_pos (by omega), if_neg (by omega)]

/-! ### Same -/
theorem samemsg_f (a b : Int) (l : List Int) : skiarearef58_SameMessage.f a b l a b l = some true := by
  unfold skiarearef58_SameMessage.f
  rw [if_pos rfl, if_pos rfl]
  simp
theorem small_loop (l : List S43) (hl : l.length ≤ 40) (d : Nat) : ∀ (k i : Nat), i + d = l.length → d < k → skiarealaw58_small.l0 k l (i : Int) = some ((l.drop i).all fun o => decide (o.f3.length ≤ 3000 ∧ o.f4.length ≤ 40)) := by
  have dr : ∀ i, i < l.length → l.drop i = rd_T43 l (i : Int) :: l.drop (i + 1) := fun i h => by
    rw [List.drop_eq_getElem_cons h]
    unfold rd_T43
    simp [List.getD_eq_getElem?_getD, h]
  induction d with
  | zero =>
    intro k i hi hk
    obtain ⟨k, rfl⟩ : ∃ m, k = m + 1 := ⟨k - 1, by omega⟩
    simp only [skiarealaw58_small.l0]
    rw [if_neg (by omega), List.drop_eq_nil_of_le (by omega)]
    rfl
  | succ d ih =>
    intro k i hi hk
    obtain ⟨k, rfl⟩ : ∃ m, k = m + 1 := ⟨k - 1, by omega⟩
    simp only [skiarealaw58_small.l0]
    rw [if_pos (by omega), if_pos (by omega), dr i (by omega), wrap_small (by omega) (by omega), List.all_cons]
    have h2 := ih k (i + 1) (by omega) (by omega)
    simp only [Int.natCast_add, Int.cast_ofNat_Int] at h2
    generalize rd_T43 l (i : Int) = o at *
    by_cases h3 : (o.f3.length : Int) > 3000
    · rw [if_pos h3, show decide (o.f3.length ≤ 3000 ∧ o.f4.length ≤ 40) = false by simp; omega]; rfl
    · rw [if_neg h3]
      by_cases h4 : (o.f4.length : Int) > 40
      · rw [if_pos h4, show decide (o.f3.length ≤ 3000 ∧ o.f4.length ≤ 40) = false by simp; omega]; rfl
      · rw [if_neg h4, show decide (o.f3.length ≤ 3000 ∧ o.f4.length ≤ 40) = true by simp; omega, h2]; rfl
def smallP (l : List S43) : Bool := decide (l.length ≤ 40) && l.all fun o => decide (o.f3.length ≤ 3000 ∧ o.f4.length ≤ 40)
theorem small_f (l : List S43) (k : Nat) (hk : 50 < k) : skiarealaw58_small.f k l = some (smallP l) := by
  unfold skiarealaw58_small.f smallP
  by_cases h : (l.length : Int) > 40
  · rw [if_pos h, show decide (l.length ≤ 40) = false by simp; omega]; rfl
  · rw [if_neg h, show decide (l.length ≤ 40) = true by simp; omega]
    have := small_loop l (by omega) l.length k 0 (by omega) (by omega)
    simpa using this

end Go.Proofs.Ytlaheldjlfckkaa.A

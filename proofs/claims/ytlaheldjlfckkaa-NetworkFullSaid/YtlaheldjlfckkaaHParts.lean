/- What network.parts answers (slices.ContainsFunc with a function literal): the walk. -/
import Derived.Test.YtlaheldjlfckkaaAx0
import Derived.Lib.Hide
namespace Go.Proofs.Ytlaheldjlfckkaa.A
open Go.RowKit Go.Proofs.YtlaheldjlfckkaaW.PrintWords Go.Proofs.YtlaheldjlfckkaaW.PrintLast Go.Proofs.YtlaheldjlfckkaaW.PrintMore
set_option linter.unusedVariables false
set_option linter.unusedSimpArgs false

/-- A part's number. -/
def okPart (n : Int) : Bool := decide (0 ≤ n ∧ n ≤ 16)
def badGo : List Int → Int → Int
  | [], _ => -1
  | x :: xs, i => if okPart x = true then badGo xs (i + 1) else i

theorem part_calls (n : Int) (W : World) : Calls Try.prog 43 #[.int .i64 n] W fun e w' => e = .returned (.bool (okPart n)) ∧ w' = W := by
  by_cases h1 : 0 ≤ n
  · have b1 : decide (0 ≤ n) = true := decide_eq_true h1
    have e : okPart n = decide (n ≤ 16) := by unfold okPart; simp [h1]
    rw [e]
    go_enter Try.func43, Try.ntmps43
    go_wp2
    go_ret
    exact ⟨rfl, rfl⟩
  · have b1 : decide (0 ≤ n) = false := decide_eq_false h1
    have e : okPart n = false := by unfold okPart; simp [h1]
    rw [e]
    go_enter Try.func43, Try.ntmps43
    go_wp2
    go_ret
    exact ⟨rfl, rfl⟩

theorem literal_calls (n : Int) (W : World) : Calls Try.prog 42 #[.int .i64 n] W fun e w' => e = .returned (.bool (!okPart n)) ∧ w' = W := by
  go_enter Try.func42, Try.ntmps42
  go_wp2_with fail
  refine (part_calls n W).mono ?_
  rintro e w' ⟨rfl, rfl⟩
  go_wp2
  go_ret
  exact ⟨rfl, rfl⟩

theorem drop_rdi (l : List Int) (i : Nat) (h : i < l.length) : l.drop i = rd l (i : Int) :: l.drop (i + 1) := by
  rw [List.drop_eq_getElem_cons h]
  unfold rd
  simp [List.getD_eq_getElem?_getD, h]

set_option maxHeartbeats 1600000 in
set_option maxRecDepth 100000 in
theorem index_calls (A : Option Addr) (c : Nat) (l : List Int) (w : World) (hr : Kd.C (Kd.int .i64) w A l.length l) :
    Calls Try.prog 49 #[.slice A l.length c, .func (.func 42) #[] #[]] w fun e w' => e = .returned (.int .i64 (badGo l 0)) ∧ w' = w := by
  have hlen : l.length ≤ 9223372036854775807 := hr.2.1
  have HR := Lib.hid hr
  clear hr
  go_enter Try.func49, Try.ntmps49
  go_wp2
  go_loop [5, 8] (fun _ s8 => ∃ j : Nat, j ≤ l.length ∧ s8 = .int .i64 j ∧ Hid (badGo (l.drop j) j = badGo l 0)) (fun _ s8 => l.length - (intOf s8).toNat)
  case atStart => exact ⟨0, Nat.zero_le _, rfl, Lib.hid rfl⟩
  case round =>
    obtain ⟨j, hj, rfl, HF⟩ := hrel
    by_cases hlt : j < l.length
    · have hltz : (j : Int) < (l.length : Int) := by omega
      obtain ⟨ad, eA, x0⟩ := Kd.at_int HR.out (j : Int) (by omega) hltz
      subst eA
      have HD := Lib.hid (drop_rdi l j hlt)
      generalize rd l (j : Int) = x at *
      rw [Int.toNat_natCast] at x0
      have HL := Lib.hid (literal_calls x w)
      cases he : okPart x with
      | false =>
        rw [he] at HL
        have HE := Lib.hid he
        clear he
        go_wp2_with fail
        refine HL.out.mono ?_
        rintro e w' ⟨rfl, rfl⟩
        go_wp2_with fail
        go_ret
        refine ⟨?_, rfl⟩
        have h1 := HF.out
        rw [HD.out] at h1
        simp only [badGo, HE.out, Bool.false_eq_true, if_false] at h1
        show Ending.returned (.int .i64 (j : Int)) = _
        rw [← h1]
      | true =>
        rw [he] at HL
        have HE := Lib.hid he
        clear he
        go_wp2_with fail
        refine HL.out.mono ?_
        rintro e w' ⟨rfl, rfl⟩
        go_wp2_with fail
        go_round
        case rel =>
          refine ⟨j + 1, by omega, by go_num, Lib.hid ?_⟩
          have h1 := HF.out
          rw [HD.out] at h1
          simp only [badGo, HE.out, if_true] at h1
          simpa using h1
        case measure => simp [intOf]; omega
    · have hj2 : j = l.length := by omega
      subst hj2
      have h1 := HF.out
      rw [List.drop_length] at h1
      have H1 := Lib.hid h1
      clear h1 hlt
      go_wp2
      go_ret
      exact ⟨by rw [← H1.out]; rfl, rfl⟩

theorem bad_iff : ∀ (l : List Int) (i : Int), 0 ≤ i → (0 ≤ badGo l i ↔ l.all okPart = false)
  | [], i, _ => by simp [badGo]
  | x :: xs, i, h => by
    have ih := bad_iff xs (i + 1) (by omega)
    rw [List.all_cons]
    by_cases he : okPart x = true
    · have e : badGo (x :: xs) i = badGo xs (i + 1) := by simp only [badGo]; rw [if_pos he]
      rw [e, ih, he]; simp
    · have e : badGo (x :: xs) i = i := by simp only [badGo]; rw [if_neg he]
      rw [e]; simp [he, h]

theorem contains_calls (A : Option Addr) (c : Nat) (l : List Int) (w : World) (hr : Kd.C (Kd.int .i64) w A l.length l) :
    Calls Try.prog 41 #[.slice A l.length c, .func (.func 42) #[] #[]] w fun e w' => e = .returned (.bool (!(l.all okPart))) ∧ w' = w := by
  have HR := Lib.hid hr
  have hb0 : decide (0 ≤ badGo l 0) = !(l.all okPart) := by
    have := bad_iff l 0 (by omega)
    cases h : l.all okPart with
    | true => simp only [h, Bool.true_eq_false, iff_false] at this; simp; omega
    | false => simp only [h, iff_true] at this; simp; omega
  have HB := Lib.hid hb0
  clear hb0
  clear hr
  go_enter Try.func41, Try.ntmps41
  go_wp2_with fail
  refine (index_calls _ _ _ _ HR.out).mono ?_
  rintro e w' ⟨rfl, rfl⟩
  go_wp2
  go_ret
  refine ⟨?_, rfl⟩
  show Ending.returned (.bool (decide (0 ≤ badGo l 0))) = _
  rw [HB.out]

def network_parts.f (_ : Nat) (l0 : List Int) : Option Bool := some (l0.all okPart)
theorem network_parts.mono : ∀ a0 k, LeO (network_parts.f k a0) (network_parts.f (k + 1) a0) := fun _ _ => LeO.refl _
theorem network_parts.calls (k : Nat) (A0 : Option Addr) (c0 : Nat) (l0 : List Int) (r : Bool) (w : World) (hr0 : Kd.C (Kd.int .i64) w A0 l0.length l0) (hc0 : l0.length ≤ c0) (h : network_parts.f k l0 = some r) :
    Calls Try.prog 27 #[.slice A0 l0.length c0] w fun e w' => e = .returned (.bool r) ∧ Drawn0 w w' := by
  obtain rfl := Option.some.inj h
  have HR := Lib.hid hr0
  clear hr0 h hc0
  generalize hb : l0.all okPart = b
  have HB := Lib.hid hb
  clear hb
  go_enter Try.func27, Try.ntmps27
  go_wp2_with fail
  refine (contains_calls _ _ _ _ HR.out).mono ?_
  rintro e w' ⟨rfl, rfl⟩
  rw [HB.out]
  go_wp2
  go_ret
  exact ⟨by simp, Drawn0.refl _⟩

end Go.Proofs.Ytlaheldjlfckkaa.A

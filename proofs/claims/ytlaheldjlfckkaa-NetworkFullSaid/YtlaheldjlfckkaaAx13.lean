import Derived.Test.YtlaheldjlfckkaaAx0
namespace Go.Proofs.Ytlaheldjlfckkaa.A
open Go.RowKit Go.Proofs.YtlaheldjlfckkaaW.PrintWords Go.Proofs.YtlaheldjlfckkaaW.PrintLast Go.Proofs.YtlaheldjlfckkaaW.PrintMore
attribute [local go_sem] max2_int min2_int max_two min_two max_three min_three max_four min_four   -- for this text's walks alone
set_option linter.unusedVariables false
set_option linter.unusedSimpArgs false

/-! ### skiarealaw58_small: function 15 -/
def skiarealaw58_small.l0 : Nat → List (S43) → Int → Option (Bool)
  | 0, _, _ => none
  | k + 1, x0, x3 => if x3 < (x0.length : Int) then (if 0 ≤ x3 then (if (((rd_T43 x0 x3).f3).length : Int) > 3000 then (some false) else (if (((rd_T43 x0 x3).f4).length : Int) > 40 then (some false) else (skiarealaw58_small.l0 k x0 (wrap64 (x3 + 1))))) else (none)) else (some true)
def skiarealaw58_small.f (k : Nat) (l0 : List (S43)) : Option (Bool) := if (l0.length : Int) > 40 then (some false) else (skiarealaw58_small.l0 k l0 0)
theorem skiarealaw58_small.mono_l : ∀ k, (∀ y0 y1, LeO (skiarealaw58_small.l0 k y0 y1) (skiarealaw58_small.l0 (k + 1) y0 y1))
  | 0 => fun _ _ r h => by simp [skiarealaw58_small.l0] at h
  | k + 1 => by
    have ih0 := skiarealaw58_small.mono_l k
    · intro y0 y1
      unfold skiarealaw58_small.l0
      repeat' first
      | (with_reducible exact ih0 _ _)
      | (with_reducible exact LeO.refl _)
      | (with_reducible exact LeO.none _)
      | (with_reducible refine LeO.ite ?_ ?_)
      | (with_reducible refine LeO.bind ?_ (fun _ => ?_))
      | exact ih0 _ _
      | exact LeO.none _
      | refine LeO.ite ?_ ?_
      | refine LeO.bind ?_ (fun _ => ?_)
theorem skiarealaw58_small.mono : ∀ a0 k, LeO (skiarealaw58_small.f k a0) (skiarealaw58_small.f (k + 1) a0) := by
  intro a0 k
  have ih0 := skiarealaw58_small.mono_l k
  unfold skiarealaw58_small.f
  repeat' first
      | (with_reducible exact ih0 _ _)
      | (with_reducible exact LeO.refl _)
      | (with_reducible exact LeO.none _)
      | (with_reducible refine LeO.ite ?_ ?_)
      | (with_reducible refine LeO.bind ?_ (fun _ => ?_))
      | exact ih0 _ _
      | exact LeO.none _
      | refine LeO.ite ?_ ?_
      | refine LeO.bind ?_ (fun _ => ?_)
set_option maxHeartbeats 8000000 in
set_option maxRecDepth 100000 in
theorem skiarealaw58_small.calls (k : Nat) (A0 : Option Addr) (c0 : Nat) (l0 : List (S43)) (r : Bool) (w : World) (hr0 : Kd.C k43 w A0 l0.length l0) (hc0 : l0.length ≤ c0) (h : skiarealaw58_small.f k l0 = some r) :
    Calls Try.prog 15 #[.slice A0 l0.length c0] w fun e w' => e = .returned (.bool r) ∧ Drawn0 w w' := by
  have HR0 := Aside0.mk hr0
  have HC0 := Aside0.mk hc0
  clear hr0 hc0
  have H : (if (l0.length : Int) > 40 then (some false) else (skiarealaw58_small.l0 k l0 0)) = some r := h
  clear h
  by_cases c2 : (l0.length : Int) > 40
  · rw [if_pos c2] at H
    have c2b0 : decide (40 < (l0.length : Int)) = true := decide_eq_true c2
    have c2b1 : decide (40 < l0.length) = true := decide_eq_true (by omega)
    clear c2
    obtain rfl := Option.some.inj H
    go_enter Try.func15, Try.ntmps15
    go_wp2
    go_ret
    exact ⟨by first | rfl | (simp; done) | (simp [*]; done), by repeat (first | exact Drawn0.refl _ | apply Drawn0.step)⟩
  · rw [if_neg c2] at H
    have c2b0 : decide (40 < (l0.length : Int)) = false := decide_eq_false c2
    have c2b1 : decide (40 < l0.length) = false := decide_eq_false (by omega)
    clear c2
    have H' := Aside0.mk H
    clear H
    go_enter Try.func15, Try.ntmps15
    go_wp2
    go_loopg [3] k (fun kq v3 w' => ∃ (x3_1 : Int), v3 = .int .i64 x3_1 ∧ Aside0 (skiarealaw58_small.l0 kq l0 x3_1 = some r) ∧ Aside0 (kq ≤ k) ∧ Drawn0 w w')
    case atStart => exact ⟨(0), (by first | rfl | (simp; done) | (simp [*]; done)), H', ⟨Nat.le_refl _⟩, by repeat (first | exact Drawn0.refl _ | apply Drawn0.step)⟩
    case round =>
      clear H'
      try clear c1
      try clear c2
      try clear c2b0
      try clear c2b1
      try clear p2
      obtain ⟨x3_1, rfl, HA, HK1, ⟨m1, rfl⟩⟩ := hrel
      cases gk with
      | zero => exact absurd HA.out (by simp [skiarealaw58_small.l0])
      | succ k1 =>
        have H := HA.out
        clear HA
        simp only [skiarealaw58_small.l0] at H
        by_cases c3 : x3_1 < (l0.length : Int)
        · rw [if_pos c3] at H
          have c3b0 : decide (x3_1 < (l0.length : Int)) = true := decide_eq_true c3
          clear c3
          by_cases c4 : 0 ≤ x3_1
          · rw [if_pos c4] at H
            have c4b0 : decide (0 ≤ x3_1) = true := decide_eq_true c4
            clear c4
            by_cases c5 : (((rd_T43 l0 x3_1).f3).length : Int) > 3000
            · rw [if_pos c5] at H
              have c5b0 : decide (3000 < (((rd_T43 l0 x3_1).f3).length : Int)) = true := decide_eq_true c5
              have c5b1 : decide (3000 < ((rd_T43 l0 x3_1).f3).length) = true := decide_eq_true (by omega)
              clear c5
              obtain rfl := Option.some.inj H
              have p281 : 0 ≤ (x3_1 : Int) := of_decide_eq_true (by first | (with_reducible assumption) | assumption)
              have q281 : x3_1 < (l0.length : Int) := of_decide_eq_true (by first | (with_reducible assumption) | assumption)
              obtain ⟨ad281, A281_3, c281_3, A281_4, c281_4, e281, hx281_0, hx281_1, hx281_2, hx281_3, hx281_4, hl281_3, hi281_3, hl281_4, hi281_4⟩ := at_T43 HR0.out x3_1 p281 q281
              cases e281
              have HR281_3 := Aside0.mk hi281_3
              have HC281_3 := Aside0.mk hl281_3
              clear hi281_3 hl281_3
              have HR281_4 := Aside0.mk hi281_4
              have HC281_4 := Aside0.mk hl281_4
              clear hi281_4 hl281_4
              replace p281 := eq_true p281
              replace q281 := eq_true q281
              go_wp2
              go_ret
              exact ⟨by first | rfl | (simp; done) | (simp [*]; done), by repeat (first | exact Drawn0.refl _ | apply Drawn0.step)⟩
            · rw [if_neg c5] at H
              have c5b0 : decide (3000 < (((rd_T43 l0 x3_1).f3).length : Int)) = false := decide_eq_false c5
              have c5b1 : decide (3000 < ((rd_T43 l0 x3_1).f3).length) = false := decide_eq_false (by omega)
              clear c5
              by_cases c6 : (((rd_T43 l0 x3_1).f4).length : Int) > 40
              · rw [if_pos c6] at H
                have c6b0 : decide (40 < (((rd_T43 l0 x3_1).f4).length : Int)) = true := decide_eq_true c6
                have c6b1 : decide (40 < ((rd_T43 l0 x3_1).f4).length) = true := decide_eq_true (by omega)
                clear c6
                obtain rfl := Option.some.inj H
                have p281 : 0 ≤ (x3_1 : Int) := of_decide_eq_true (by first | (with_reducible assumption) | assumption)
                have q281 : x3_1 < (l0.length : Int) := of_decide_eq_true (by first | (with_reducible assumption) | assumption)
                obtain ⟨ad281, A281_3, c281_3, A281_4, c281_4, e281, hx281_0, hx281_1, hx281_2, hx281_3, hx281_4, hl281_3, hi281_3, hl281_4, hi281_4⟩ := at_T43 HR0.out x3_1 p281 q281
                cases e281
                have HR281_3 := Aside0.mk hi281_3
                have HC281_3 := Aside0.mk hl281_3
                clear hi281_3 hl281_3
                have HR281_4 := Aside0.mk hi281_4
                have HC281_4 := Aside0.mk hl281_4
                clear hi281_4 hl281_4
                replace p281 := eq_true p281
                replace q281 := eq_true q281
                have p282 : 0 ≤ (x3_1 : Int) := of_decide_eq_true (by first | (with_reducible assumption) | assumption)
                have q282 : x3_1 < (l0.length : Int) := of_decide_eq_true (by first | (with_reducible assumption) | assumption)
                obtain ⟨ad282, A282_3, c282_3, A282_4, c282_4, e282, hx282_0, hx282_1, hx282_2, hx282_3, hx282_4, hl282_3, hi282_3, hl282_4, hi282_4⟩ := at_T43 HR0.out x3_1 p282 q282
                obtain rfl : ad281 = ad282 := (by injection e282)
                have HR282_3 := Aside0.mk hi282_3
                have HC282_3 := Aside0.mk hl282_3
                clear hi282_3 hl282_3
                have HR282_4 := Aside0.mk hi282_4
                have HC282_4 := Aside0.mk hl282_4
                clear hi282_4 hl282_4
                replace p282 := eq_true p282
                replace q282 := eq_true q282
                have ea_ := Option.some.inj (hx281_3.symm.trans hx282_3)
                injection ea_ with ea_ en_ ec_
                subst ea_
                subst ec_
                clear en_
                have ea_ := Option.some.inj (hx281_4.symm.trans hx282_4)
                injection ea_ with ea_ en_ ec_
                subst ea_
                subst ec_
                clear en_
                go_wp2
                go_ret
                exact ⟨by first | rfl | (simp; done) | (simp [*]; done), by repeat (first | exact Drawn0.refl _ | apply Drawn0.step)⟩
              · rw [if_neg c6] at H
                have c6b0 : decide (40 < (((rd_T43 l0 x3_1).f4).length : Int)) = false := decide_eq_false c6
                have c6b1 : decide (40 < ((rd_T43 l0 x3_1).f4).length) = false := decide_eq_false (by omega)
                clear c6
                have H' := Aside0.mk H
                clear H
                have p281 : 0 ≤ (x3_1 : Int) := of_decide_eq_true (by first | (with_reducible assumption) | assumption)
                have q281 : x3_1 < (l0.length : Int) := of_decide_eq_true (by first | (with_reducible assumption) | assumption)
                obtain ⟨ad281, A281_3, c281_3, A281_4, c281_4, e281, hx281_0, hx281_1, hx281_2, hx281_3, hx281_4, hl281_3, hi281_3, hl281_4, hi281_4⟩ := at_T43 HR0.out x3_1 p281 q281
                cases e281
                have HR281_3 := Aside0.mk hi281_3
                have HC281_3 := Aside0.mk hl281_3
                clear hi281_3 hl281_3
                have HR281_4 := Aside0.mk hi281_4
                have HC281_4 := Aside0.mk hl281_4
                clear hi281_4 hl281_4
                replace p281 := eq_true p281
                replace q281 := eq_true q281
                have p282 : 0 ≤ (x3_1 : Int) := of_decide_eq_true (by first | (with_reducible assumption) | assumption)
                have q282 : x3_1 < (l0.length : Int) := of_decide_eq_true (by first | (with_reducible assumption) | assumption)
                obtain ⟨ad282, A282_3, c282_3, A282_4, c282_4, e282, hx282_0, hx282_1, hx282_2, hx282_3, hx282_4, hl282_3, hi282_3, hl282_4, hi282_4⟩ := at_T43 HR0.out x3_1 p282 q282
                obtain rfl : ad281 = ad282 := (by injection e282)
                have HR282_3 := Aside0.mk hi282_3
                have HC282_3 := Aside0.mk hl282_3
                clear hi282_3 hl282_3
                have HR282_4 := Aside0.mk hi282_4
                have HC282_4 := Aside0.mk hl282_4
                clear hi282_4 hl282_4
                replace p282 := eq_true p282
                replace q282 := eq_true q282
                have ea_ := Option.some.inj (hx281_3.symm.trans hx282_3)
                injection ea_ with ea_ en_ ec_
                subst ea_
                subst ec_
                clear en_
                have ea_ := Option.some.inj (hx281_4.symm.trans hx282_4)
                injection ea_ with ea_ en_ ec_
                subst ea_
                subst ec_
                clear en_
                go_wp2
                go_roundg k1
                case measure => have := HK1.out; omega
                case rel => exact ⟨(wrap64 (x3_1 + 1)), (by first | rfl | (simp; done) | (simp [*]; done)), H', ⟨by have := HK1.out; omega⟩, by repeat (first | exact Drawn0.refl _ | apply Drawn0.step)⟩
          · rw [if_neg c4] at H
            exact absurd H (by simp)
        · rw [if_neg c3] at H
          have c3b0 : decide (x3_1 < (l0.length : Int)) = false := decide_eq_false c3
          clear c3
          obtain rfl := Option.some.inj H
          go_wp2
          go_ret
          exact ⟨by first | rfl | (simp; done) | (simp [*]; done), by repeat (first | exact Drawn0.refl _ | apply Drawn0.step)⟩

-- NOT PRINTED: function 17 (skiarealaw58_done)

-- NOT PRINTED: function 16 (skiarealaw58_after)

-- NOT PRINTED: function 4 (skiarealaw58_NetworkBounds)

end Go.Proofs.Ytlaheldjlfckkaa.A

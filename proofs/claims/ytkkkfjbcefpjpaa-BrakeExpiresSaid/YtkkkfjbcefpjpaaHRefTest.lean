/- What the reference's Test does (function 14 of the translation): the walk. -/
import Derived.Test.YtkkkfjbcefpjpaaAx0
namespace Go.Proofs.Ytkkkfjbcefpjpaa.A
open Go.RowKit Go.Proofs.YtkkkfjbcefpjpaaW.PrintWords Go.Proofs.YtkkkfjbcefpjpaaW.PrintLast Go.Proofs.YtkkkfjbcefpjpaaW.PrintMore
attribute [local go_sem] max2_int min2_int max_two min_two max_three min_three max_four min_four
set_option linter.unusedVariables false
set_option linter.unusedSimpArgs false

/-! ### skiarearef15_Test: function 14 -/
mutual
def skiarearef15_Test.l0 : Nat → List (S32) → Int → Int → Int → Int → Int → Option ((List (S32)) × Int)
  | 0, _, _, _, _, _, _ => none
  | k + 1, x0, x1, x2, x3, x10, x11 => if x11 < (x0.length : Int) then (if 0 ≤ x11 then (if ((rd_T32 x0 x11).f0) = x1 then (skiarearef15_Test.l0 k x0 x1 x2 x3 x11 (wrap64 (x11 + 1))) else (skiarearef15_Test.l0 k x0 x1 x2 x3 x10 (wrap64 (x11 + 1)))) else (none)) else (if x10 < 0 then (some (([] : List (S32)), 8)) else (if x2 < 0 then (skiarearef15_Test.j1 k x0 x2 x3 x10 true) else (if x2 > 10000000 then (skiarearef15_Test.j1 k x0 x2 x3 x10 true) else (if x3 < 0 then (skiarearef15_Test.j1 k x0 x2 x3 x10 true) else (skiarearef15_Test.j1 k x0 x2 x3 x10 (decide (x3 > 20000000)))))))
def skiarearef15_Test.j1 : Nat → List (S32) → Int → Int → Int → Bool → Option ((List (S32)) × Int)
  | 0, _, _, _, _, _ => none
  | k + 1, x0, x2, x3, x10, x42 => if x42 = true then (some (([] : List (S32)), 2)) else (if 0 ≤ x10 then (if x10 < (x0.length : Int) then (if x3 < ((rd_T32 x0 x10).f3) then (some (([] : List (S32)), 11)) else ((some (([] : List (S32)) : List (S32))).bind fun y166 => (if y166.length + x0.length < 3518437208883 then ((some (y166 ++ x0 : List (S32))).bind fun y169 => (if x10 < (y169.length : Int) then ((some (y169.set (x10 : Int).toNat (⟨(rd_T32 y169 x10).f0, (rd_T32 y169 x10).f1, (rd_T32 y169 x10).f2, x3, (rd_T32 y169 x10).f4⟩ : S32) : List (S32))).bind fun y172 => (some ((y172.set (x10 : Int).toNat (⟨(rd_T32 y172 x10).f0, (rd_T32 y172 x10).f1, (rd_T32 y172 x10).f2, (rd_T32 y172 x10).f3, x2⟩ : S32)), 0))) else (none))) else (none)))) else (none)) else (none))
end
def skiarearef15_Test.f (k : Nat) (l0 : List (S32)) (a1 : Int) (a2 : Int) (a3 : Int) : Option ((List (S32)) × Int) := skiarearef15_Test.l0 k l0 a1 a2 a3 (-1) 0
theorem skiarearef15_Test.mono_l : ∀ k, (∀ y0 y1 y2 y3 y4 y5, LeO (skiarearef15_Test.l0 k y0 y1 y2 y3 y4 y5) (skiarearef15_Test.l0 (k + 1) y0 y1 y2 y3 y4 y5)) ∧ (∀ y0 y1 y2 y3 y4, LeO (skiarearef15_Test.j1 k y0 y1 y2 y3 y4) (skiarearef15_Test.j1 (k + 1) y0 y1 y2 y3 y4))
  | 0 => ⟨fun _ _ _ _ _ _ r h => by simp [skiarearef15_Test.l0] at h, fun _ _ _ _ _ r h => by simp [skiarearef15_Test.j1] at h⟩
  | k + 1 => by
    obtain ⟨ih0, ih1⟩ := skiarearef15_Test.mono_l k
    refine ⟨?_, ?_⟩
    · intro y0 y1 y2 y3 y4 y5
      unfold skiarearef15_Test.l0
      repeat' first
      | (with_reducible exact ih0 _ _ _ _ _ _)
      | (with_reducible exact ih1 _ _ _ _ _)
      | (with_reducible exact LeO.refl _)
      | (with_reducible exact LeO.none _)
      | (with_reducible refine LeO.ite ?_ ?_)
      | (with_reducible refine LeO.bind ?_ (fun _ => ?_))
      | exact ih0 _ _ _ _ _ _
      | exact ih1 _ _ _ _ _
      | exact LeO.none _
      | refine LeO.ite ?_ ?_
      | refine LeO.bind ?_ (fun _ => ?_)
    · intro y0 y1 y2 y3 y4
      unfold skiarearef15_Test.j1
      repeat' first
      | (with_reducible exact ih0 _ _ _ _ _ _)
      | (with_reducible exact ih1 _ _ _ _ _)
      | (with_reducible exact LeO.refl _)
      | (with_reducible exact LeO.none _)
      | (with_reducible refine LeO.ite ?_ ?_)
      | (with_reducible refine LeO.bind ?_ (fun _ => ?_))
      | exact ih0 _ _ _ _ _ _
      | exact ih1 _ _ _ _ _
      | exact LeO.none _
      | refine LeO.ite ?_ ?_
      | refine LeO.bind ?_ (fun _ => ?_)
theorem skiarearef15_Test.mono : ∀ a0 a1 a2 a3 k, LeO (skiarearef15_Test.f k a0 a1 a2 a3) (skiarearef15_Test.f (k + 1) a0 a1 a2 a3) := by
  intro a0 a1 a2 a3 k
  obtain ⟨ih0, ih1⟩ := skiarearef15_Test.mono_l k
  unfold skiarearef15_Test.f
  repeat' first
      | (with_reducible exact ih0 _ _ _ _ _ _)
      | (with_reducible exact ih1 _ _ _ _ _)
      | (with_reducible exact LeO.refl _)
      | (with_reducible exact LeO.none _)
      | (with_reducible refine LeO.ite ?_ ?_)
      | (with_reducible refine LeO.bind ?_ (fun _ => ?_))
      | exact ih0 _ _ _ _ _ _
      | exact ih1 _ _ _ _ _
      | exact LeO.none _
      | refine LeO.ite ?_ ?_
      | refine LeO.bind ?_ (fun _ => ?_)
set_option maxHeartbeats 8000000 in
set_option maxRecDepth 100000 in
theorem skiarearef15_Test.calls (k : Nat) (A0 : Option Addr) (c0 : Nat) (l0 : List (S32)) (a1 : Int) (a2 : Int) (a3 : Int) (r1 : List (S32)) (r2 : Int) (w : World) (hr0 : Kd.C k32 w A0 l0.length l0) (hc0 : l0.length ≤ c0) (h : skiarearef15_Test.f k l0 a1 a2 a3 = some (r1, r2)) :
    Calls Try.prog 14 #[.slice A0 l0.length c0, .int .i64 a1, .int .i64 a2, .int .i64 a3] w fun e w' => ∃ v0_ : Value, e = .returned (.tuple #[v0_, .int .i64 r2]) ∧ Kd.R k32 32 w' w.heap.size (fun _ => True) v0_ r1 ∧ Below w.heap.size w w' := by
  have HR0 := Aside0.mk hr0
  have HC0 := Aside0.mk hc0
  clear hr0 hc0
  have HB := Aside0.mk (Below.refl w.heap.size w)
  have H : (skiarearef15_Test.l0 k l0 a1 a2 a3 (-1) 0) = some (r1, r2) := h
  clear h
  have H' := Aside0.mk H
  clear H
  go_enter Try.func14, Try.ntmps14
  go_wp2
  go_loopg [10, 11] k (fun kq v10 v11 w' => ∃ (x10_1 : Int) (x11_1 : Int), v10 = .int .i64 x10_1 ∧ v11 = .int .i64 x11_1 ∧ Aside0 (skiarearef15_Test.l0 kq l0 a1 a2 a3 x10_1 x11_1 = some (r1, r2)) ∧ Aside0 (kq ≤ k) ∧ Aside0 (Below w.heap.size w w'))
  case atStart => exact ⟨((-1)), (0), (by first | rfl | (simp; done) | (simp [*]; done)), (by first | rfl | (simp; done) | (simp [*]; done)), H', ⟨Nat.le_refl _⟩, ⟨by repeat (first | (with_reducible first | exact HB.out | apply below_alloc | apply pw_below_drewN | apply below_drew1) | exact HB.out)⟩⟩
  case round =>
    clear H'
    try clear c1
    try clear p2
    obtain ⟨x10_1, x11_1, rfl, rfl, HA, HK1, HB⟩ := hrel
    cases gk with
    | zero => exact absurd HA.out (by simp [skiarearef15_Test.l0])
    | succ k1 =>
      have H := HA.out
      clear HA
      simp only [skiarearef15_Test.l0] at H
      by_cases c5 : x11_1 < (l0.length : Int)
      · rw [if_pos c5] at H
        have c5b0 : decide (x11_1 < (l0.length : Int)) = true := decide_eq_true c5
        clear c5
        by_cases c6 : 0 ≤ x11_1
        · rw [if_pos c6] at H
          have c6b0 : decide (0 ≤ x11_1) = true := decide_eq_true c6
          clear c6
          by_cases c7 : ((rd_T32 l0 x11_1).f0) = a1
          · rw [if_pos c7] at H
            have c7b0 : (((rd_T32 l0 x11_1).f0) == a1) = true := beq_iff_eq.mpr c7
            have c7b1 : (((rd_T32 l0 x11_1).f0) != a1) = false := bne_eq_false_iff_eq.mpr c7
            clear c7
            have H' := Aside0.mk H
            clear H
            have p164 : 0 ≤ (x11_1 : Int) := of_decide_eq_true (by first | (with_reducible assumption) | assumption)
            have q164 : x11_1 < (l0.length : Int) := of_decide_eq_true (by first | (with_reducible assumption) | assumption)
            obtain ⟨ad164, e164, hx164_0, hx164_1, hx164_2, hx164_3, hx164_4⟩ := at_T32 HR0.out x11_1 p164 q164
            cases e164
            replace hx164_0 := (HB.out.cell (World.block_lt_of_cell? w _ hx164_0)).trans hx164_0
            replace hx164_1 := (HB.out.cell (World.block_lt_of_cell? w _ hx164_1)).trans hx164_1
            replace hx164_2 := (HB.out.cell (World.block_lt_of_cell? w _ hx164_2)).trans hx164_2
            replace hx164_3 := (HB.out.cell (World.block_lt_of_cell? w _ hx164_3)).trans hx164_3
            replace hx164_4 := (HB.out.cell (World.block_lt_of_cell? w _ hx164_4)).trans hx164_4
            replace p164 := eq_true p164
            replace q164 := eq_true q164
            go_wp2
            go_roundg k1
            case measure => have := HK1.out; omega
            case rel => exact ⟨(x11_1), (wrap64 (x11_1 + 1)), (by first | rfl | (simp; done) | (simp [*]; done)), (by first | rfl | (simp; done) | (simp [*]; done)), H', ⟨by have := HK1.out; omega⟩, ⟨by repeat (first | (with_reducible first | exact HB.out | apply below_alloc | apply pw_below_drewN | apply below_drew1) | exact HB.out)⟩⟩
          · rw [if_neg c7] at H
            have c7b0 : (((rd_T32 l0 x11_1).f0) == a1) = false := beq_eq_false_iff_ne.mpr c7
            have c7b1 : (((rd_T32 l0 x11_1).f0) != a1) = true := bne_iff_ne.mpr c7
            have H' := Aside0.mk H
            clear H
            have p164 : 0 ≤ (x11_1 : Int) := of_decide_eq_true (by first | (with_reducible assumption) | assumption)
            have q164 : x11_1 < (l0.length : Int) := of_decide_eq_true (by first | (with_reducible assumption) | assumption)
            obtain ⟨ad164, e164, hx164_0, hx164_1, hx164_2, hx164_3, hx164_4⟩ := at_T32 HR0.out x11_1 p164 q164
            cases e164
            replace hx164_0 := (HB.out.cell (World.block_lt_of_cell? w _ hx164_0)).trans hx164_0
            replace hx164_1 := (HB.out.cell (World.block_lt_of_cell? w _ hx164_1)).trans hx164_1
            replace hx164_2 := (HB.out.cell (World.block_lt_of_cell? w _ hx164_2)).trans hx164_2
            replace hx164_3 := (HB.out.cell (World.block_lt_of_cell? w _ hx164_3)).trans hx164_3
            replace hx164_4 := (HB.out.cell (World.block_lt_of_cell? w _ hx164_4)).trans hx164_4
            replace p164 := eq_true p164
            replace q164 := eq_true q164
            go_wp2
            go_roundg k1
            case measure => have := HK1.out; omega
            case rel => exact ⟨(x10_1), (wrap64 (x11_1 + 1)), (by first | rfl | (simp; done) | (simp [*]; done)), (by first | rfl | (simp; done) | (simp [*]; done)), H', ⟨by have := HK1.out; omega⟩, ⟨by repeat (first | (with_reducible first | exact HB.out | apply below_alloc | apply pw_below_drewN | apply below_drew1) | exact HB.out)⟩⟩
        · rw [if_neg c6] at H
          exact absurd H (by simp)
      · rw [if_neg c5] at H
        have c5b0 : decide (x11_1 < (l0.length : Int)) = false := decide_eq_false c5
        clear c5
        by_cases c8 : x10_1 < 0
        · rw [if_pos c8] at H
          have c8b0 : decide (x10_1 < 0) = true := decide_eq_true c8
          clear c8
          simp only [Option.some.injEq, Prod.mk.injEq] at H
          obtain ⟨rfl, rfl⟩ := H
          go_wp2
          go_ret2
          exact ⟨_, by first | rfl | (simp [errW_none, errW_some] <;> rfl) | (simp [*, errW_none, errW_some] <;> rfl), by first | exact Kd.R_nil _ _ _ _ _ | exact Kd.N_nil _ _ _ _ _ | exact Kd.V_nil _ _ _ _ _ | exact Kd.Q_nil _ _ _ _ _ | exact Kd.S_nil _ _ _ _ _, by repeat (first | (with_reducible first | exact HB.out | apply below_alloc | apply pw_below_drewN | apply below_drew1) | exact HB.out)⟩
        · rw [if_neg c8] at H
          have c8b0 : decide (x10_1 < 0) = false := decide_eq_false c8
          clear c8
          have HC9 := Aside0.mk H
          clear H
          go_upto_region 9 with (fail)
          go_cut [42] (fun v42 wc => ∃ (kq : Nat) (x42_8 : Bool), v42 = .bool x42_8 ∧ Aside0 (skiarearef15_Test.j1 kq l0 a2 a3 x10_1 x42_8 = some (r1, r2)) ∧ Aside0 (kq ≤ k1) ∧ Aside0 (Below w.heap.size w wc))
          case first =>
            have H := HC9.out
            clear HC9
            by_cases c10 : a2 < 0
            · rw [if_pos c10] at H
              have c10b0 : decide (a2 < 0) = true := decide_eq_true c10
              clear c10
              (first | rw [c10b0] | (simp only [i64_w, i32_w]; rw [c10b0]) | skip)
              have H' := Aside0.mk H
              clear H
              go_wp2
              go_meet
              case rel => exact ⟨_, (true), (by first | rfl | (simp; done) | (simp [*]; done)), H', ⟨by have := HK1.out; first | omega | exact Nat.le_refl _⟩, ⟨by repeat (first | (with_reducible first | exact HB.out | apply below_alloc | apply pw_below_drewN | apply below_drew1) | exact HB.out)⟩⟩
            · rw [if_neg c10] at H
              have c10b0 : decide (a2 < 0) = false := decide_eq_false c10
              clear c10
              (first | rw [c10b0] | (simp only [i64_w, i32_w]; rw [c10b0]) | skip)
              by_cases c11 : a2 > 10000000
              · rw [if_pos c11] at H
                have c11b0 : decide (10000000 < a2) = true := decide_eq_true c11
                clear c11
                have H' := Aside0.mk H
                clear H
                go_wp2
                go_meet
                case rel => exact ⟨_, (true), (by first | rfl | (simp; done) | (simp [*]; done)), H', ⟨by have := HK1.out; first | omega | exact Nat.le_refl _⟩, ⟨by repeat (first | (with_reducible first | exact HB.out | apply below_alloc | apply pw_below_drewN | apply below_drew1) | exact HB.out)⟩⟩
              · rw [if_neg c11] at H
                have c11b0 : decide (10000000 < a2) = false := decide_eq_false c11
                clear c11
                by_cases c12 : a3 < 0
                · rw [if_pos c12] at H
                  have c12b0 : decide (a3 < 0) = true := decide_eq_true c12
                  clear c12
                  have H' := Aside0.mk H
                  clear H
                  go_wp2
                  go_meet
                  case rel => exact ⟨_, (true), (by first | rfl | (simp; done) | (simp [*]; done)), H', ⟨by have := HK1.out; first | omega | exact Nat.le_refl _⟩, ⟨by repeat (first | (with_reducible first | exact HB.out | apply below_alloc | apply pw_below_drewN | apply below_drew1) | exact HB.out)⟩⟩
                · rw [if_neg c12] at H
                  have c12b0 : decide (a3 < 0) = false := decide_eq_false c12
                  clear c12
                  have H' := Aside0.mk H
                  clear H
                  go_wp2
                  go_meet
                  case rel => exact ⟨_, (decide (a3 > 20000000)), (by first | rfl | (simp; done) | (simp [*]; done)), H', ⟨by have := HK1.out; first | omega | exact Nat.le_refl _⟩, ⟨by repeat (first | (with_reducible first | exact HB.out | apply below_alloc | apply pw_below_drewN | apply below_drew1) | exact HB.out)⟩⟩
          case rest =>
            clear HC9
            try clear c1
            try clear p1
            try clear q1
            try clear hx1
            try clear p2
            try clear c5
            try clear c5b0
            try clear c6
            try clear c6b0
            try clear p6
            try clear c7
            try clear c7b0
            try clear c7b1
            try clear c8
            try clear c8b0
            try clear c10
            try clear c10b0
            try clear c11
            try clear c11b0
            try clear c12
            try clear c12b0
            try clear hx164_0
            try clear hx164_1
            try clear hx164_2
            try clear hx164_3
            try clear hx164_4
            try clear p164
            try clear p2
            try clear q164
            obtain ⟨kq, x42_8, rfl, HA, HJ8, HB⟩ := hcut
            cases kq with
            | zero => exact absurd HA.out (by simp [skiarearef15_Test.j1])
            | succ kj8 =>
              have H := HA.out
              clear HA
              simp only [skiarearef15_Test.j1] at H
              by_cases c13 : x42_8 = true
              · subst c13
                have H1 : (some (([] : List (S32)), 2)) = some (r1, r2) := by rw [if_pos rfl] at H; exact H
                clear H
                have H := H1
                clear H1
                simp only [Option.some.injEq, Prod.mk.injEq] at H
                obtain ⟨rfl, rfl⟩ := H
                go_wp2
                go_ret2
                exact ⟨_, by first | rfl | (simp [errW_none, errW_some] <;> rfl) | (simp [*, errW_none, errW_some] <;> rfl), by first | exact Kd.R_nil _ _ _ _ _ | exact Kd.N_nil _ _ _ _ _ | exact Kd.V_nil _ _ _ _ _ | exact Kd.Q_nil _ _ _ _ _ | exact Kd.S_nil _ _ _ _ _, by repeat (first | (with_reducible first | exact HB.out | apply below_alloc | apply pw_below_drewN | apply below_drew1) | exact HB.out)⟩
              · replace c13 := Bool.eq_false_iff.mpr c13
                subst c13
                have H1 : (if 0 ≤ x10_1 then (if x10_1 < (l0.length : Int) then (if a3 < ((rd_T32 l0 x10_1).f3) then (some (([] : List (S32)), 11)) else ((some (([] : List (S32)) : List (S32))).bind fun y166 => (if y166.length + l0.length < 3518437208883 then ((some (y166 ++ l0 : List (S32))).bind fun y169 => (if x10_1 < (y169.length : Int) then ((some (y169.set (x10_1 : Int).toNat (⟨(rd_T32 y169 x10_1).f0, (rd_T32 y169 x10_1).f1, (rd_T32 y169 x10_1).f2, a3, (rd_T32 y169 x10_1).f4⟩ : S32) : List (S32))).bind fun y172 => (some ((y172.set (x10_1 : Int).toNat (⟨(rd_T32 y172 x10_1).f0, (rd_T32 y172 x10_1).f1, (rd_T32 y172 x10_1).f2, (rd_T32 y172 x10_1).f3, a2⟩ : S32)), 0))) else (none))) else (none)))) else (none)) else (none)) = some (r1, r2) := by rw [if_neg (show ¬ (false = true) by decide)] at H; exact H
                clear H
                have H := H1
                clear H1
                by_cases c14 : 0 ≤ x10_1
                · rw [if_pos c14] at H
                  have c14b0 : decide (0 ≤ x10_1) = true := decide_eq_true c14
                  clear c14
                  by_cases c15 : x10_1 < (l0.length : Int)
                  · rw [if_pos c15] at H
                    have c15b0 : decide (x10_1 < (l0.length : Int)) = true := decide_eq_true c15
                    clear c15
                    by_cases c16 : a3 < ((rd_T32 l0 x10_1).f3)
                    · rw [if_pos c16] at H
                      have c16b0 : decide (a3 < ((rd_T32 l0 x10_1).f3)) = true := decide_eq_true c16
                      clear c16
                      simp only [Option.some.injEq, Prod.mk.injEq] at H
                      obtain ⟨rfl, rfl⟩ := H
                      have p165 : 0 ≤ (x10_1 : Int) := of_decide_eq_true (by first | (with_reducible assumption) | assumption)
                      have q165 : x10_1 < (l0.length : Int) := of_decide_eq_true (by first | (with_reducible assumption) | assumption)
                      obtain ⟨ad165, e165, hx165_0, hx165_1, hx165_2, hx165_3, hx165_4⟩ := at_T32 HR0.out x10_1 p165 q165
                      cases e165
                      replace hx165_0 := (HB.out.cell (World.block_lt_of_cell? w _ hx165_0)).trans hx165_0
                      replace hx165_1 := (HB.out.cell (World.block_lt_of_cell? w _ hx165_1)).trans hx165_1
                      replace hx165_2 := (HB.out.cell (World.block_lt_of_cell? w _ hx165_2)).trans hx165_2
                      replace hx165_3 := (HB.out.cell (World.block_lt_of_cell? w _ hx165_3)).trans hx165_3
                      replace hx165_4 := (HB.out.cell (World.block_lt_of_cell? w _ hx165_4)).trans hx165_4
                      replace p165 := eq_true p165
                      replace q165 := eq_true q165
                      go_wp2
                      go_ret2
                      exact ⟨_, by first | rfl | (simp [errW_none, errW_some] <;> rfl) | (simp [*, errW_none, errW_some] <;> rfl), by first | exact Kd.R_nil _ _ _ _ _ | exact Kd.N_nil _ _ _ _ _ | exact Kd.V_nil _ _ _ _ _ | exact Kd.Q_nil _ _ _ _ _ | exact Kd.S_nil _ _ _ _ _, by repeat (first | (with_reducible first | exact HB.out | apply below_alloc | apply pw_below_drewN | apply below_drew1) | exact HB.out)⟩
                    · rw [if_neg c16] at H
                      have c16b0 : decide (a3 < ((rd_T32 l0 x10_1).f3)) = false := decide_eq_false c16
                      clear c16
                      obtain ⟨y166, hy166⟩ : ∃ y_ : List (S32), y_ = (([] : List (S32))) := ⟨_, rfl⟩
                      replace H : (if y166.length + l0.length < 3518437208883 then ((some (y166 ++ l0 : List (S32))).bind fun y169 => (if x10_1 < (y169.length : Int) then ((some (y169.set (x10_1 : Int).toNat (⟨(rd_T32 y169 x10_1).f0, (rd_T32 y169 x10_1).f1, (rd_T32 y169 x10_1).f2, a3, (rd_T32 y169 x10_1).f4⟩ : S32) : List (S32))).bind fun y172 => (some ((y172.set (x10_1 : Int).toNat (⟨(rd_T32 y172 x10_1).f0, (rd_T32 y172 x10_1).f1, (rd_T32 y172 x10_1).f2, (rd_T32 y172 x10_1).f3, a2⟩ : S32)), 0))) else (none))) else (none)) = some (r1, r2) := by first | (rw [hy166]; with_reducible exact H) | (have H2_ := (Option.bind_some _ _).symm.trans H; rw [hy166]; with_reducible exact H2_) | (have H2_ := (Option.bind_some _ _).symm.trans H; with_reducible exact H2_) | with_reducible exact H | (rw [hy166]; exact H) | exact H
                      have Ny166 := Aside0.mk hy166
                      clear hy166
                      by_cases c17 : y166.length + l0.length < 3518437208883
                      · rw [if_pos c17] at H
                        have LMc17 := Aside0.mk c17
                        clear c17
                        obtain ⟨y169, hy169⟩ : ∃ y_ : List (S32), y_ = (y166 ++ l0) := ⟨_, rfl⟩
                        replace H : (if x10_1 < (y169.length : Int) then ((some (y169.set (x10_1 : Int).toNat (⟨(rd_T32 y169 x10_1).f0, (rd_T32 y169 x10_1).f1, (rd_T32 y169 x10_1).f2, a3, (rd_T32 y169 x10_1).f4⟩ : S32) : List (S32))).bind fun y172 => (some ((y172.set (x10_1 : Int).toNat (⟨(rd_T32 y172 x10_1).f0, (rd_T32 y172 x10_1).f1, (rd_T32 y172 x10_1).f2, (rd_T32 y172 x10_1).f3, a2⟩ : S32)), 0))) else (none)) = some (r1, r2) := by first | (rw [hy169]; with_reducible exact H) | (have H2_ := (Option.bind_some _ _).symm.trans H; rw [hy169]; with_reducible exact H2_) | (have H2_ := (Option.bind_some _ _).symm.trans H; with_reducible exact H2_) | with_reducible exact H | (rw [hy169]; exact H) | exact H
                        have Ny169 := Aside0.mk hy169
                        clear hy169
                        by_cases c18 : x10_1 < (y169.length : Int)
                        · rw [if_pos c18] at H
                          have c18b0 : decide (x10_1 < (y169.length : Int)) = true := decide_eq_true c18
                          clear c18
                          obtain ⟨y172, hy172⟩ : ∃ y_ : List (S32), y_ = (y169.set (x10_1 : Int).toNat (⟨(rd_T32 y169 x10_1).f0, (rd_T32 y169 x10_1).f1, (rd_T32 y169 x10_1).f2, a3, (rd_T32 y169 x10_1).f4⟩ : S32)) := ⟨_, rfl⟩
                          replace H : (some ((y172.set (x10_1 : Int).toNat (⟨(rd_T32 y172 x10_1).f0, (rd_T32 y172 x10_1).f1, (rd_T32 y172 x10_1).f2, (rd_T32 y172 x10_1).f3, a2⟩ : S32)), 0)) = some (r1, r2) := by first | (rw [hy172]; with_reducible exact H) | (have H2_ := (Option.bind_some _ _).symm.trans H; rw [hy172]; with_reducible exact H2_) | (have H2_ := (Option.bind_some _ _).symm.trans H; with_reducible exact H2_) | with_reducible exact H | (rw [hy172]; exact H) | exact H
                          have Ny172 := Aside0.mk hy172
                          clear hy172
                          obtain ⟨y173, hy173⟩ : ∃ y_ : List (S32), y_ = (y172.set (x10_1 : Int).toNat (⟨(rd_T32 y172 x10_1).f0, (rd_T32 y172 x10_1).f1, (rd_T32 y172 x10_1).f2, (rd_T32 y172 x10_1).f3, a2⟩ : S32)) := ⟨_, rfl⟩
                          replace H : (some (y173, 0)) = some (r1, r2) := by first | (rw [hy173]; with_reducible exact H) | (have H2_ := (Option.bind_some _ _).symm.trans H; rw [hy173]; with_reducible exact H2_) | (have H2_ := (Option.bind_some _ _).symm.trans H; with_reducible exact H2_) | with_reducible exact H | (rw [hy173]; exact H) | exact H
                          have Ny173 := Aside0.mk hy173
                          clear hy173
                          simp only [Option.some.injEq, Prod.mk.injEq] at H
                          obtain ⟨rfl, rfl⟩ := H
                          have p165 : 0 ≤ (x10_1 : Int) := of_decide_eq_true (by first | (with_reducible assumption) | assumption)
                          have q165 : x10_1 < (l0.length : Int) := of_decide_eq_true (by first | (with_reducible assumption) | assumption)
                          obtain ⟨ad165, e165, hx165_0, hx165_1, hx165_2, hx165_3, hx165_4⟩ := at_T32 HR0.out x10_1 p165 q165
                          cases e165
                          replace hx165_0 := (HB.out.cell (World.block_lt_of_cell? w _ hx165_0)).trans hx165_0
                          replace hx165_1 := (HB.out.cell (World.block_lt_of_cell? w _ hx165_1)).trans hx165_1
                          replace hx165_2 := (HB.out.cell (World.block_lt_of_cell? w _ hx165_2)).trans hx165_2
                          replace hx165_3 := (HB.out.cell (World.block_lt_of_cell? w _ hx165_3)).trans hx165_3
                          replace hx165_4 := (HB.out.cell (World.block_lt_of_cell? w _ hx165_4)).trans hx165_4
                          replace p165 := eq_true p165
                          replace q165 := eq_true q165
                          go_wp2_with (first | ((with_reducible refine gate_builtin (b := .append) (xs := #[.const (.slice none 0 0), .tmp 50]) rfl ?_); at_builtin; refine Kd.R_append_rows k32 (w0 := w) w.heap.size rfl (.const (.slice none 0 0)) (.tmp 50) 22 32 (.agg #[(.int .i64 0), (.int .i64 0), (.int .i64 0), (.int .i64 0), (.int .i64 0)]) 40 rfl Try.underlying22 info32 rfl (by decide) (by omega) (.slice none 0 0) y166 l0 _ _ _ (fun _ => True) (fun _ => False) rfl rfl ?aO ?aR (fun _ _ h => h) (fun _ h => h.elim) ?aF ?aB ?aS ?aL ?_; (case aR => repeat (first | exact (Kd.C_below HR0.out HB.out) | (with_reducible refine Kd.C_alloc ?_ _) | (with_reducible refine Kd.C_drewN ?_ _) | (with_reducible refine Kd.C_drew ?_))); (case aB => exact (by repeat (first | (with_reducible first | exact HB.out | apply below_alloc | apply pw_below_drewN | apply below_drew1) | exact HB.out))); (case aF => exact (fun _ _ => trivial)); (case aO => exact (by rw [Ny166.out]; exact Kd.R_nil _ _ _ _ _)); (case aS => exact (below_size (by repeat (first | (with_reducible first | exact HB.out | apply below_alloc | apply pw_below_drewN | apply below_drew1) | exact HB.out)))); (case aL => have := LMc17.out; omega); intro v170 w23 ho hb hg hat; rw [← Ny169.out] at ho; have n0_ := Aside0.mk (hb); have n1_ := Aside0.mk (ho); clear HB; have HB := n0_; have HO171 := n1_; clear n0_ n1_; clear ho hb hg hat; have p19 : 0 ≤ (x10_1 : Int) := of_decide_eq_true (by first | (with_reducible assumption) | assumption); have q19 : (x10_1 : Int) < ((y169.length : Int) : Int) := of_decide_eq_true (by first | (with_reducible assumption) | assumption); obtain ⟨go19, co19, eo19, gb19, gl19, cl19, HG19⟩ := Kd.R_form HO171.out (by omega); (first | cases eo19 | (injection eo19 with ea_ en_ ec_; (first | subst ea_ | (injection ea_ with ea_; subst ea_)); subst ec_; clear en_)); have GB19 := Aside0.mk gb19; have GG19 := Aside0.mk HG19; clear gb19 gl19 HG19; obtain ⟨ce19, hcl19, hM19, hcc19, hfr19⟩ := Kd.R_elem HO171.out z32 (x10_1 : Int) p19 q19; obtain rfl := k32_openM hM19; have hx19_0 : w23.cell? ⟨go19, (x10_1 : Int).toNat * 5, none⟩ = some (.int .i64 ((rd_T32 y169 x10_1).f0)) := hcc19 0 _ rfl; have hx19_1 : w23.cell? ⟨go19, (x10_1 : Int).toNat * 5 + 1, none⟩ = some (.int .i64 ((rd_T32 y169 x10_1).f1)) := hcc19 1 _ rfl; have hx19_2 : w23.cell? ⟨go19, (x10_1 : Int).toNat * 5 + 2, none⟩ = some (.int .i64 ((rd_T32 y169 x10_1).f2)) := hcc19 2 _ rfl; have hx19_3 : w23.cell? ⟨go19, (x10_1 : Int).toNat * 5 + 3, none⟩ = some (.int .i64 ((rd_T32 y169 x10_1).f3)) := hcc19 3 _ rfl; have hx19_4 : w23.cell? ⟨go19, (x10_1 : Int).toNat * 5 + 4, none⟩ = some (.int .i64 ((rd_T32 y169 x10_1).f4)) := hcc19 4 _ rfl; have hf19_0 : w23.frozen? ⟨go19, (x10_1 : Int).toNat * 5, none⟩ = false := hfr19 0; have hf19_1 : w23.frozen? ⟨go19, (x10_1 : Int).toNat * 5 + 1, none⟩ = false := hfr19 1; have hf19_2 : w23.frozen? ⟨go19, (x10_1 : Int).toNat * 5 + 2, none⟩ = false := hfr19 2; have hf19_3 : w23.frozen? ⟨go19, (x10_1 : Int).toNat * 5 + 3, none⟩ = false := hfr19 3; have hf19_4 : w23.frozen? ⟨go19, (x10_1 : Int).toNat * 5 + 4, none⟩ = false := hfr19 4; clear hcl19 hcc19 hfr19 hM19; replace p19 := eq_true p19; replace q19 := eq_true q19; have HX24 := Aside0.mk (show Kd.R k32 32 w23 w.heap.size (fun _ => True) (.slice (some ⟨go19, 0, none⟩) y169.length co19) y169 from (by (with_reducible repeat (first | apply Kd.R_alloc | apply Kd.R_drewN | apply Kd.R_drew)); exact HO171.out)); obtain ⟨ce24, hcl24, hM24, hcc24, hfr24⟩ := Kd.R_elem HX24.out z32 (x10_1 : Int) (of_decide_eq_true (by first | (with_reducible assumption) | assumption)) (by have h_ : (x10_1 : Int) < ((y169.length : Int) : Int) := of_decide_eq_true (by first | (with_reducible assumption) | assumption); first | exact h_ | (have e_ := (Kd.R_reads' HO171.out).1; omega) | simpa using h_); obtain rfl := k32_openM hM24; have HP24 := Kd.R_seg HX24.out (x10_1 : Int) (of_decide_eq_true (by first | (with_reducible assumption) | assumption)) (by have h_ : (x10_1 : Int) < ((y169.length : Int) : Int) := of_decide_eq_true (by first | (with_reducible assumption) | assumption); first | exact h_ | (have e_ := (Kd.R_reads' HO171.out).1; omega) | simpa using h_) (seg := [.int .i64 a3]) (j := 3) hcl24 hcc24 (show 4 ≤ 5 from by decide) (x' := (⟨(rd_T32 y169 x10_1).f0, (rd_T32 y169 x10_1).f1, (rd_T32 y169 x10_1).f2, a3, (rd_T32 y169 x10_1).f4⟩ : S32)) (k32_mkM _ _ _ (⟨(rd_T32 y169 x10_1).f0, (rd_T32 y169 x10_1).f1, (rd_T32 y169 x10_1).f2, a3, (rd_T32 y169 x10_1).f4⟩ : S32) ) (fun _ hk => hk); have hx24_3 := hcc24 3 _ rfl; (try simp only [show (k32).sz = 5 from rfl, Nat.mul_one, Nat.add_zero] at hx24_3); have hf24_3 := hfr24 3; (try simp only [show (k32).sz = 5 from rfl, Nat.mul_one, Nat.add_zero] at hf24_3); clear hcl24 hcc24 hfr24 hM24) | ((with_reducible refine gate_store (t := 3) (p := 56) rfl ?_); refine store_event (t := 3) (p := 56) (v := ?vo_w25) (w1 := (w23.setCell ⟨go19, (x10_1 : Int).toNat * 5 + 3, none⟩ (.int .i64 a3))) ?hg ?ho ?hn ?hr ?_; (case ho => rfl); (case hg => rfl); (case hn => rfl); (case hr => first | (go_simp; done) | (go_simp; rfl)); intro w25 hw; have hg : w23.grownBy w25 (some go19) := (by rw [hw]; exact HP24.2); have hp_ : Kd.R k32 32 w25 w.heap.size (fun _ => True) (.slice (some ⟨go19, 0, none⟩) y169.length co19) y172 := (by rw [hw, Ny172.out]; exact HP24.1); clear HP24; have n0_ := Aside0.mk (hp_); have n1_ := Aside0.mk ((by rw [hw]; exact below_set (HB.out) GB19.out : Below w.heap.size w w25)); clear HO171; clear HB; have HO171 := n0_; have HB := n1_; clear n0_ n1_; clear hg hw hp_; have p20 : 0 ≤ (x10_1 : Int) := of_decide_eq_true (by first | (with_reducible assumption) | assumption); have q20 : (x10_1 : Int) < ((y169.length : Int) : Int) := of_decide_eq_true (by first | (with_reducible assumption) | assumption); obtain ⟨ce20, hcl20, hM20, hcc20, hfr20⟩ := Kd.R_elem HO171.out z32 (x10_1 : Int) p20 q20; obtain rfl := k32_openM hM20; have hx20_0 : w25.cell? ⟨go19, (x10_1 : Int).toNat * 5, none⟩ = some (.int .i64 ((rd_T32 y172 x10_1).f0)) := hcc20 0 _ rfl; have hx20_1 : w25.cell? ⟨go19, (x10_1 : Int).toNat * 5 + 1, none⟩ = some (.int .i64 ((rd_T32 y172 x10_1).f1)) := hcc20 1 _ rfl; have hx20_2 : w25.cell? ⟨go19, (x10_1 : Int).toNat * 5 + 2, none⟩ = some (.int .i64 ((rd_T32 y172 x10_1).f2)) := hcc20 2 _ rfl; have hx20_3 : w25.cell? ⟨go19, (x10_1 : Int).toNat * 5 + 3, none⟩ = some (.int .i64 ((rd_T32 y172 x10_1).f3)) := hcc20 3 _ rfl; have hx20_4 : w25.cell? ⟨go19, (x10_1 : Int).toNat * 5 + 4, none⟩ = some (.int .i64 ((rd_T32 y172 x10_1).f4)) := hcc20 4 _ rfl; have hf20_0 : w25.frozen? ⟨go19, (x10_1 : Int).toNat * 5, none⟩ = false := hfr20 0; have hf20_1 : w25.frozen? ⟨go19, (x10_1 : Int).toNat * 5 + 1, none⟩ = false := hfr20 1; have hf20_2 : w25.frozen? ⟨go19, (x10_1 : Int).toNat * 5 + 2, none⟩ = false := hfr20 2; have hf20_3 : w25.frozen? ⟨go19, (x10_1 : Int).toNat * 5 + 3, none⟩ = false := hfr20 3; have hf20_4 : w25.frozen? ⟨go19, (x10_1 : Int).toNat * 5 + 4, none⟩ = false := hfr20 4; clear hcl20 hcc20 hfr20 hM20; replace p20 := eq_true p20; replace q20 := eq_true q20; have HX26 := Aside0.mk (show Kd.R k32 32 w25 w.heap.size (fun _ => True) (.slice (some ⟨go19, 0, none⟩) y169.length co19) y172 from (by (with_reducible repeat (first | apply Kd.R_alloc | apply Kd.R_drewN | apply Kd.R_drew)); exact HO171.out)); obtain ⟨ce26, hcl26, hM26, hcc26, hfr26⟩ := Kd.R_elem HX26.out z32 (x10_1 : Int) (of_decide_eq_true (by first | (with_reducible assumption) | assumption)) (by have h_ : (x10_1 : Int) < ((y169.length : Int) : Int) := of_decide_eq_true (by first | (with_reducible assumption) | assumption); first | exact h_ | (have e_ := (Kd.R_reads' HO171.out).1; omega) | simpa using h_); obtain rfl := k32_openM hM26; have HP26 := Kd.R_seg HX26.out (x10_1 : Int) (of_decide_eq_true (by first | (with_reducible assumption) | assumption)) (by have h_ : (x10_1 : Int) < ((y169.length : Int) : Int) := of_decide_eq_true (by first | (with_reducible assumption) | assumption); first | exact h_ | (have e_ := (Kd.R_reads' HO171.out).1; omega) | simpa using h_) (seg := [.int .i64 a2]) (j := 4) hcl26 hcc26 (show 5 ≤ 5 from by decide) (x' := (⟨(rd_T32 y172 x10_1).f0, (rd_T32 y172 x10_1).f1, (rd_T32 y172 x10_1).f2, (rd_T32 y172 x10_1).f3, a2⟩ : S32)) (k32_mkM _ _ _ (⟨(rd_T32 y172 x10_1).f0, (rd_T32 y172 x10_1).f1, (rd_T32 y172 x10_1).f2, (rd_T32 y172 x10_1).f3, a2⟩ : S32) ) (fun _ hk => hk); have hx26_4 := hcc26 4 _ rfl; (try simp only [show (k32).sz = 5 from rfl, Nat.mul_one, Nat.add_zero] at hx26_4); have hf26_4 := hfr26 4; (try simp only [show (k32).sz = 5 from rfl, Nat.mul_one, Nat.add_zero] at hf26_4); clear hcl26 hcc26 hfr26 hM26) | ((with_reducible refine gate_store (t := 3) (p := 61) rfl ?_); refine store_event (t := 3) (p := 61) (v := ?vo_w27) (w1 := (w25.setCell ⟨go19, (x10_1 : Int).toNat * 5 + 4, none⟩ (.int .i64 a2))) ?hg ?ho ?hn ?hr ?_; (case ho => rfl); (case hg => rfl); (case hn => rfl); (case hr => first | (go_simp; done) | (go_simp; rfl)); intro w27 hw; have hg : w25.grownBy w27 (some go19) := (by rw [hw]; exact HP26.2); have hp_ : Kd.R k32 32 w27 w.heap.size (fun _ => True) (.slice (some ⟨go19, 0, none⟩) y169.length co19) y173 := (by rw [hw, Ny173.out]; exact HP26.1); clear HP26; have n0_ := Aside0.mk (hp_); have n1_ := Aside0.mk ((by rw [hw]; exact below_set (HB.out) GB19.out : Below w.heap.size w w27)); clear HO171; clear HB; have HO171 := n0_; have HB := n1_; clear n0_ n1_; clear hg hw hp_))
                          go_ret2
                          exact ⟨_, by first | rfl | (simp [errW_none, errW_some] <;> rfl) | (simp [*, errW_none, errW_some] <;> rfl), by (with_reducible repeat (first | apply Kd.R_alloc | apply Kd.R_drewN | apply Kd.R_drew)); exact HO171.out, by repeat (first | (with_reducible first | exact HB.out | apply below_alloc | apply pw_below_drewN | apply below_drew1) | exact HB.out)⟩
                        · rw [if_neg c18] at H
                          exact absurd H (by simp)
                      · rw [if_neg c17] at H
                        exact absurd H (by simp)
                  · rw [if_neg c15] at H
                    exact absurd H (by simp)
                · rw [if_neg c14] at H
                  exact absurd H (by simp)


end Go.Proofs.Ytkkkfjbcefpjpaa.A

/- What choose.Best computes: the walk. -/
import Derived.Test.YtjblknlmjklkgaaHVisit
import Derived.Test.YtjblknlmjklkgaaHRight
namespace Go.Proofs.Ytjblknlmjklkgaa.A
open Go.RowKit Go.Proofs.YtjblknlmjklkgaaW.PrintWords Go.Proofs.YtjblknlmjklkgaaW.PrintLast Go.Proofs.YtjblknlmjklkgaaW.PrintMore
set_option linter.unusedVariables false
set_option linter.unusedSimpArgs false

theorem items_of {l : List S42} (h : rightP l = 0) : Items l := by
  unfold rightP at h
  by_cases h1 : 12 < l.length
  · rw [if_pos h1] at h; omega
  · rw [if_neg h1] at h
    by_cases h2 : l.all okItem = true
    · refine ⟨by omega, fun i => ?_⟩
      by_cases hi : i.toNat < l.length
      · have e : rd_T42 l i = l[i.toNat] := by unfold rd_T42; simp [List.getD_eq_getElem?_getD, hi]
        rw [e]
        have := List.all_eq_true.1 h2 _ (List.getElem_mem hi)
        unfold okItem at this
        simp only [decide_eq_true_eq] at this
        omega
      · have e : rd_T42 l i = z42 := by unfold rd_T42; simp [List.getD_eq_getElem?_getD, List.getElem?_eq_none (Nat.le_of_not_lt hi)]
        rw [e]
        simp [z42]
    · rw [if_neg h2] at h; omega

set_option maxHeartbeats 1600000 in
set_option maxRecDepth 100000 in
theorem choose_Best.calls (A0 : Option Addr) (c0 : Nat) (l0 : List (S42)) (a1 : Int) (a2 : Int) (r1 : List Int) (r2 : Int) (w : World) (hr0 : Kd.C k42 w A0 l0.length l0) (hc0 : l0.length ≤ c0) (h : choose_Best.f l0 a1 a2 = some (r1, r2)) :
    Calls Try.prog 18 #[.slice A0 l0.length c0, .int .i64 a1, .int .i64 a2] w fun e w' => ∃ v0_ : Value, e = .returned (.tuple #[v0_, .int .i64 r2]) ∧ Kd.R (Kd.int .i64) 3 w' w.heap.size (fun _ => True) v0_ r1 ∧ Below w.heap.size w w' := by
  have HR := Lib.hid hr0
  have HC := Lib.hid hc0
  clear hr0 hc0
  unfold choose_Best.f at h
  by_cases hin : In64 a1 ∧ In64 a2
  · rw [if_pos hin] at h
    have hf := right_f l0 13 (by omega)
    by_cases h0 : rightP l0 = 0
    · rw [if_pos h0] at h
      simp only [Option.some.injEq, Prod.mk.injEq] at h
      obtain ⟨rfl, rfl⟩ := h
      have HI := Lib.hid (items_of h0)
      rw [h0] at hf
      have HF := Lib.hid hf
      clear hf h0
      obtain ⟨⟨i1, i2⟩, i3, i4⟩ := hin
      have G := fun W => choose_Right.calls 13 A0 c0 l0 0 W
      have HG := Lib.hid G
      clear G
      by_cases ha : 0 ≤ a1
      · by_cases hb : 0 ≤ a2
        · have hbp : bestP l0 a1 a2 = (loopP l0 l0.length [] 0 a1 a2 0 (upd [] 0 ([], -1))).1 := by unfold bestP; rw [if_pos ⟨ha, hb⟩]
          have HBP := Lib.hid hbp
          clear hbp
          go_enter Try.func18, Try.ntmps18
          go_wp2_with (first | (go_at_call 12; refine (HG.out _ HR.out HC.out HF.out).mono ?_; rintro e w1 ⟨rfl, hb1⟩; have HB := Lib.hid hb1; clear hb1))
          have hS : Srch w (w1.alloc (.cells #[.slice A0 l0.length c0, .slice none 0 0, .int .i64 (-1)] 49)) w1.heap.size A0 c0 l0 (.slice none 0 0) [] ([], -1) (.slice none 0 0) :=
            ⟨below_alloc HB.out _, HB.out.size, blk_new _ _, World.ownsRow_nil _ _ _ _, World.ownsRow_nil _ _ _ _, .inl rfl⟩
          refine (visit_calls w A0 c0 l0 HI.out HR.out l0.length _ w1.heap.size (.slice none 0 0) (.slice none 0 0) [] ([], -1) 0 a1 a2 0 (by omega) (by omega) (by have := HI.out.1; simpa using this) ha i2 hb i4 (by omega) (by have := HI.out.1; omega) hS).mono ?_
          rintro e w2 ⟨rfl, bv, hs, hm⟩
          obtain ⟨A1, c1, rfl⟩ := Kd.R_slice (own_R_int hs.best)
          have k1 := (blk_cell hs.state 1).trans rfl
          have HS := Lib.hid hs
          have HM := Lib.hid hm
          clear hs hm hS
          go_wp2
          go_ret2
          exact ⟨_, rfl, by rw [HBP.out]; exact own_R_int HS.out.best, HS.out.below⟩
        · have hbp : bestP l0 a1 a2 = [] := by unfold bestP; rw [if_neg (fun h => hb h.2)]
          have HBP := Lib.hid hbp
          clear hbp
          go_enter Try.func18, Try.ntmps18
          go_wp2_with (first | (go_at_call 12; refine (HG.out _ HR.out HC.out HF.out).mono ?_; rintro e w1 ⟨rfl, hb1⟩; have HB := Lib.hid hb1; clear hb1))
          go_ret2
          exact ⟨_, rfl, by rw [HBP.out]; exact Kd.R_nil _ _ _ _ _, below_alloc HB.out _⟩
      · have hbp : bestP l0 a1 a2 = [] := by unfold bestP; rw [if_neg (fun h => ha h.1)]
        have HBP := Lib.hid hbp
        clear hbp
        go_enter Try.func18, Try.ntmps18
        go_wp2_with (first | (go_at_call 12; refine (HG.out _ HR.out HC.out HF.out).mono ?_; rintro e w1 ⟨rfl, hb1⟩; have HB := Lib.hid hb1; clear hb1))
        go_ret2
        exact ⟨_, rfl, by rw [HBP.out]; exact Kd.R_nil _ _ _ _ _, below_alloc HB.out _⟩
    · rw [if_neg h0] at h
      simp only [Option.some.injEq, Prod.mk.injEq] at h
      obtain ⟨rfl, rfl⟩ := h
      have HF := Lib.hid hf
      have hne : (rightP l0 == 0) = false := by simpa using h0
      have hne2 : (rightP l0 != 0) = true := by simpa using h0
      clear hf h0
      have G := fun W => choose_Right.calls 13 A0 c0 l0 (rightP l0) W
      have HG := Lib.hid G
      clear G
      generalize rightP l0 = rr at *
      go_enter Try.func18, Try.ntmps18
      go_wp2_with (first | (go_at_call 12; refine (HG.out _ HR.out HC.out HF.out).mono ?_; rintro e w1 ⟨rfl, hb1⟩; have HB := Lib.hid hb1; clear hb1))
      go_ret2
      exact ⟨_, rfl, Kd.R_nil _ _ _ _ _, HB.out⟩
  · rw [if_neg hin] at h; cases h

end Go.Proofs.Ytjblknlmjklkgaa.A

/- The chapter's examples hold (skiarealaw07.alive answers true): the walk. -/
import Derived.Test.YtjblknlmjklkgaaHBest
import Derived.Test.YtjblknlmjklkgaaAx3
namespace Go.Proofs.Ytjblknlmjklkgaa.A
open Go.RowKit Go.Proofs.YtjblknlmjklkgaaW.PrintWords Go.Proofs.YtjblknlmjklkgaaW.PrintLast Go.Proofs.YtjblknlmjklkgaaW.PrintMore
set_option linter.unusedVariables false
set_option linter.unusedSimpArgs false

theorem lit_ints (W : World) (xs : List Int) (h : xs.length ≤ 100) : Kd.C (Kd.int .i64) (W.alloc (.cells (nums .i64 xs).toArray 3)) (some ⟨W.heap.size, 0, none⟩) xs.length xs := by
  have ho : (W.alloc (.cells (nums .i64 xs).toArray 3)).ownsRow 0 3 1 (.slice (some ⟨W.heap.size, 0, none⟩) xs.length xs.length) xs.length (nums .i64 xs) := by
    have := World.ownsRow_lit (base := 0) (e := 3) (size := 1) W (nums .i64 xs).toArray xs.length (Nat.zero_le _) (by unfold maxLen; omega) (by simp [nums])
    simpa using this
  obtain ⟨A, c, e, _, hC⟩ := Kd.R_reads (own_R_int ho)
  injection e with e1 e2 e3
  subst e1
  exact hC

theorem lit_items (W : World) (xs : List S42) (cs : List Value) (h : xs.length ≤ 100) (hr : Reps (k42.K (W.alloc (.cells cs.toArray 42))) 3 xs cs) : Kd.C k42 (W.alloc (.cells cs.toArray 42)) (some ⟨W.heap.size, 0, none⟩) xs.length xs := by
  refine ⟨rfl, by omega, fun _ => ⟨_, rfl, fun j p hp => ⟨(cs.drop (j * 3)).take 3, ?_, hr.2 j p hp, fun i u hu => ?_⟩⟩⟩
  · exact k42.K_len (hr.2 j p hp)
  · have hi : i < 3 := by
      rcases Nat.lt_or_ge i 3 with h | h
      · exact h
      · rw [List.getElem?_eq_none (by simp; omega)] at hu; cases hu
    rw [List.getElem?_take_of_lt hi, List.getElem?_drop] at hu
    rw [show k42.sz = 3 from rfl]
    exact World.news_of_block (cs := cs.toArray) (t := 42) (fr := (0, 0)) (heap_alloc_new W _) _ _ (by simpa using hu)

def ex3_ : List S42 := [⟨3, 1, 10⟩, ⟨2, 2, 7⟩, ⟨4, 1, 9⟩]
def ex2_ : List S42 := [⟨1, 1, 0⟩, ⟨1, 1, 5⟩]
def ex1_ : List S42 := [⟨-1, 0, 0⟩]
theorem f_three : skiarealaw07_three.f = some ex3_ := rfl
theorem f_need1 : choose_Need.f 5 ex3_ [0, 2] = some (7, 2, 19, true) := by decide +kernel
theorem f_need2 : choose_Need.f 5 ex3_ [2, 0] = some (0, 0, 0, false) := by decide +kernel
theorem f_best1 : choose_Best.f ex3_ 6 3 = some ([0, 1], 0) := by decide +kernel
theorem f_best2 : choose_Best.f ex2_ 2 2 = some ([0, 1], 0) := by decide +kernel
theorem f_same : skiarearef07_Same.f 9 [0, 1] [0, 1] = some true := by decide +kernel
theorem f_fits1 : choose_Fits.f 9 ex3_ [0, 2] 7 2 = some true := by decide +kernel
theorem f_fits2 : choose_Fits.f 9 ex3_ [0, 2] 6 2 = some false := by decide +kernel
theorem f_right : choose_Right.f 9 ex1_ = some 2 := by decide +kernel

/-- One list at hand, in a world. -/
def I3 : List Value := [.int .i64 0, .int .i64 2]
theorem c_three (W : World) : Calls Try.prog 22 #[] W fun e w' => ∃ A c, e = .returned (.slice A 3 c) ∧ 3 ≤ c ∧ Kd.C k42 w' A 3 ex3_ ∧ Below W.heap.size W w' := by
  refine (skiarealaw07_three.calls ex3_ W f_three).mono ?_
  rintro e w' ⟨v, rfl, hr, hb⟩
  obtain ⟨A, c, rfl, hl, hC⟩ := Kd.R_reads hr
  exact ⟨A, c, rfl, hl, hC, hb⟩
theorem c_need (xs : List Int) (r1 r2 r3 : Int) (r4 : Bool) (h : choose_Need.f 5 ex3_ xs = some (r1, r2, r3, r4)) (hx : xs.length = 2) (A : Option Addr) (c : Nat) (W : World) (hC : Kd.C k42 W A 3 ex3_) (hc : 3 ≤ c) :
    Calls Try.prog 14 #[.slice A 3 c, .slice (some ⟨W.heap.size, 0, none⟩) 2 2] (W.alloc (.cells (nums .i64 xs).toArray 3)) fun e w' => e = .returned (.tuple #[.int .i64 r1, .int .i64 r2, .int .i64 r3, .bool r4]) ∧ Below W.heap.size W w' := by
  have h2 := lit_ints W xs (by omega)
  have h3 := choose_Need.calls 5 A c ex3_ (some ⟨W.heap.size, 0, none⟩) 2 xs r1 r2 r3 r4 (W.alloc (.cells (nums .i64 xs).toArray 3)) (Kd.C_alloc hC _) hc h2 (by omega) h
  rw [hx] at h3
  exact h3.mono fun e w' ⟨he, hb⟩ => ⟨he, below_step (below_alloc (Below.refl _ _) _) hb⟩
theorem c_fits (xs : List Int) (a b : Int) (r : Bool) (h : choose_Fits.f 9 ex3_ xs a b = some r) (hx : xs.length = 2) (A : Option Addr) (c : Nat) (W : World) (hC : Kd.C k42 W A 3 ex3_) (hc : 3 ≤ c) :
    Calls Try.prog 16 #[.slice A 3 c, .slice (some ⟨W.heap.size, 0, none⟩) 2 2, .int .i64 a, .int .i64 b] (W.alloc (.cells (nums .i64 xs).toArray 3)) fun e w' => e = .returned (.bool r) ∧ Below W.heap.size W w' := by
  have h2 := lit_ints W xs (by omega)
  have h3 := choose_Fits.calls 9 A c ex3_ (some ⟨W.heap.size, 0, none⟩) 2 xs a b r (W.alloc (.cells (nums .i64 xs).toArray 3)) (Kd.C_alloc hC _) hc h2 (by omega) h
  rw [hx] at h3
  exact h3.mono fun e w' ⟨he, hb⟩ => ⟨he, below_step (below_alloc (Below.refl _ _) _) hb⟩
theorem c_best1 (A : Option Addr) (c : Nat) (W : World) (hC : Kd.C k42 W A 3 ex3_) (hc : 3 ≤ c) :
    Calls Try.prog 18 #[.slice A 3 c, .int .i64 6, .int .i64 3] W fun e w' => ∃ A c, e = .returned (.tuple #[.slice A 2 c, .int .i64 0]) ∧ 2 ≤ c ∧ Kd.C (Kd.int .i64) w' A 2 [0, 1] ∧ Below W.heap.size W w' := by
  refine (choose_Best.calls A c ex3_ 6 3 [0, 1] 0 W hC hc f_best1).mono ?_
  rintro e w' ⟨v, rfl, hr, hb⟩
  obtain ⟨A, c, rfl, hl, hC⟩ := Kd.R_reads hr
  exact ⟨A, c, rfl, hl, hC, hb⟩
def cells2 : List Value := [.int .i64 1, .int .i64 1, .int .i64 0, .int .i64 1, .int .i64 1, .int .i64 5]
def cells1 : List Value := [.int .i64 (-1), .int .i64 0, .int .i64 0]
theorem reps2 (W : World) : Reps (k42.K W) 3 ex2_ cells2 := by
  refine ⟨rfl, fun j p hj => ?_⟩
  match j, hj with
  | 0, hj => cases hj; exact k42_mk W _
  | 1, hj => cases hj; exact k42_mk W _
theorem reps1 (W : World) : Reps (k42.K W) 3 ex1_ cells1 := by
  refine ⟨rfl, fun j p hj => ?_⟩
  match j, hj with
  | 0, hj => cases hj; exact k42_mk W _
theorem c_best2 (W : World) :
    Calls Try.prog 18 #[.slice (some ⟨W.heap.size, 0, none⟩) 2 2, .int .i64 2, .int .i64 2] (W.alloc (.cells cells2.toArray 42)) fun e w' => ∃ A c, e = .returned (.tuple #[.slice A 2 c, .int .i64 0]) ∧ 2 ≤ c ∧ Kd.C (Kd.int .i64) w' A 2 [0, 1] ∧ Below W.heap.size W w' := by
  refine (choose_Best.calls (some ⟨W.heap.size, 0, none⟩) 2 ex2_ 2 2 [0, 1] 0 (W.alloc (.cells cells2.toArray 42)) (lit_items W ex2_ cells2 (by simp [ex2_]) (reps2 _)) (Nat.le_refl _) f_best2).mono ?_
  rintro e w' ⟨v, rfl, hr, hb⟩
  obtain ⟨A, c, rfl, hl, hC⟩ := Kd.R_reads hr
  exact ⟨A, c, rfl, hl, hC, below_step (below_alloc (Below.refl _ _) _) hb⟩
theorem c_right1 (W : World) :
    Calls Try.prog 12 #[.slice (some ⟨W.heap.size, 0, none⟩) 1 1] (W.alloc (.cells cells1.toArray 42)) fun e w' => e = .returned (.int .i64 2) ∧ Below W.heap.size W w' :=
  (choose_Right.calls 9 (some ⟨W.heap.size, 0, none⟩) 1 ex1_ 2 (W.alloc (.cells cells1.toArray 42)) (lit_items W ex1_ cells1 (by simp [ex1_]) (reps1 _)) (Nat.le_refl _) f_right).mono fun e w' ⟨he, hb⟩ => ⟨he, below_step (below_alloc (Below.refl _ _) _) hb⟩
theorem c_same (A : Option Addr) (c : Nat) (W : World) (hC : Kd.C (Kd.int .i64) W A 2 [0, 1]) (hc : 2 ≤ c) :
    Calls Try.prog 20 #[.slice A 2 c, .slice (some ⟨W.heap.size, 0, none⟩) 2 2] (W.alloc (.cells (nums .i64 [0, 1]).toArray 3)) fun e w' => e = .returned (.bool true) ∧ Below W.heap.size W w' :=
  (skiarearef07_Same.calls 9 A c [0, 1] (some ⟨W.heap.size, 0, none⟩) 2 [0, 1] true (W.alloc (.cells (nums .i64 [0, 1]).toArray 3)) (Kd.C_alloc hC _) hc (lit_ints W [0, 1] (by simp)) (by simp) f_same).mono
    fun e w' ⟨he, hb⟩ => ⟨he, by obtain ⟨n, rfl⟩ := hb; exact pw_below_drewN (below_alloc (Below.refl _ _) _) n⟩

set_option maxHeartbeats 1600000 in
set_option maxRecDepth 100000 in
theorem alive_true (w : World) : Calls Try.prog 11 #[] w fun e w' => e = .returned (.bool true) ∧ Below w.heap.size w w' := by
  go_enter Try.func11, Try.ntmps11
  go_wp2_with fail
  refine (c_three _).mono ?_
  rintro e w1 ⟨A1, c1, rfl, hc1, hC1, hb⟩
  go_wp2_with fail
  refine (c_need [0, 2] _ _ _ _ f_need1 rfl A1 c1 w1 hC1 hc1).mono ?_
  rintro e w2 ⟨rfl, hb2⟩
  replace hb := below_step hb hb2
  clear hC1 hb2
  go_wp2_with fail
  refine (c_three _).mono ?_
  rintro e w1 ⟨A1, c1, rfl, hc1, hC1, hb2⟩
  replace hb := below_step hb hb2
  clear hb2
  go_wp2_with fail
  refine (c_need [2, 0] _ _ _ _ f_need2 rfl A1 c1 w1 hC1 hc1).mono ?_
  rintro e w2 ⟨rfl, hb2⟩
  replace hb := below_step hb hb2
  clear hC1 hb2
  go_wp2_with fail
  refine (c_three _).mono ?_
  rintro e w1 ⟨A1, c1, rfl, hc1, hC1, hb2⟩
  replace hb := below_step hb hb2
  clear hb2
  go_wp2_with fail
  refine (c_best1 A1 c1 w1 hC1 hc1).mono ?_
  rintro e w2 ⟨AL, cL, rfl, hcL, hL, hb2⟩
  replace hb := below_step hb hb2
  clear hC1 hb2
  go_wp2_with fail
  refine (c_best2 w2).mono ?_
  rintro e w3 ⟨AM, cM, rfl, hcM, hM, hb2⟩
  replace hb := below_step hb hb2
  replace hL := Kd.C_below hL hb2
  clear hb2
  go_wp2_with fail
  refine (c_same AL cL w3 hL hcL).mono ?_
  rintro e w4 ⟨rfl, hb2⟩
  replace hb := below_step hb hb2
  replace hM := Kd.C_below hM hb2
  clear hL hb2
  go_wp2_with fail
  refine (c_same AM cM w4 hM hcM).mono ?_
  rintro e w5 ⟨rfl, hb2⟩
  replace hb := below_step hb hb2
  clear hM hb2
  go_wp2_with fail
  refine (c_three _).mono ?_
  rintro e w1 ⟨A1, c1, rfl, hc1, hC1, hb2⟩
  replace hb := below_step hb hb2
  clear hb2
  go_wp2_with fail
  refine (c_fits [0, 2] 7 2 true f_fits1 rfl A1 c1 w1 hC1 hc1).mono ?_
  rintro e w2 ⟨rfl, hb2⟩
  replace hb := below_step hb hb2
  clear hC1 hb2
  go_wp2_with fail
  refine (c_three _).mono ?_
  rintro e w1 ⟨A1, c1, rfl, hc1, hC1, hb2⟩
  replace hb := below_step hb hb2
  clear hb2
  go_wp2_with fail
  refine (c_fits [0, 2] 6 2 false f_fits2 rfl A1 c1 w1 hC1 hc1).mono ?_
  rintro e w2 ⟨rfl, hb2⟩
  replace hb := below_step hb hb2
  clear hC1 hb2
  go_wp2_with fail
  refine (c_right1 w2).mono ?_
  rintro e w3 ⟨rfl, hb2⟩
  replace hb := below_step hb hb2
  clear hb2
  go_wp2
  go_ret
  exact ⟨rfl, hb⟩

/-- In the form of a printed function. -/
def skiarealaw07_alive.f (_ : Nat) : Option Bool := some true
theorem skiarealaw07_alive.mono : ∀ k, LeO (skiarealaw07_alive.f k) (skiarealaw07_alive.f (k + 1)) := fun _ => LeO.refl _
theorem skiarealaw07_alive.calls (k : Nat) (r : Bool) (w : World) (h : skiarealaw07_alive.f k = some r) :
    Calls Try.prog 11 #[] w fun e w' => e = .returned (.bool r) ∧ Below w.heap.size w w' := by
  obtain rfl := Option.some.inj h
  exact alive_true w
end Go.Proofs.Ytjblknlmjklkgaa.A

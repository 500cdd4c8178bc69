/- The chapter's examples hold (skiarealaw15.alive answers true): the walk. -/
import Derived.Test.YtkkkfjbcefpjpaaHLit
import Derived.Lib.Hide
import Derived.Test.YtkkkfjbcefpjpaaAx3
import Derived.Test.YtkkkfjbcefpjpaaAx4
import Derived.Test.YtkkkfjbcefpjpaaAx5
namespace Go.Proofs.Ytkkkfjbcefpjpaa.A
open Go.RowKit Go.Proofs.YtkkkfjbcefpjpaaW.PrintWords Go.Proofs.YtkkkfjbcefpjpaaW.PrintLast Go.Proofs.YtkkkfjbcefpjpaaW.PrintMore
set_option linter.unusedVariables false
set_option linter.unusedSimpArgs false

def ex2 : List S32 := [⟨1, 0, 1000, 50, 900⟩, ⟨2, 1, 500, -1, 0⟩]
def ex3 : List S32 := [⟨1, 0, 1000, 50, 900⟩, ⟨2, 1, 500, 55, 700⟩]
theorem f_test1 : ∃ r, brake_Test.f 20 ex2 2 700 55 = some (r, 0) ∧ r.length = 2 ∧ brake_Enough.f 20 r 700 60 = some true ∧ brake_Enough.f 20 r 701 60 = some false := ⟨ex3, by rfl, rfl, by decide +kernel, by decide +kernel⟩
theorem f_test2 : brake_Test.f 20 ex2 1 5 49 = some ([], 11) := rfl
theorem f_test3 : brake_Test.f 20 ex2 3 5 60 = some ([], 8) := rfl
theorem f_right : brake_Right.f 20 ex2 = some 0 := by decide +kernel
theorem f_v1 : brake_Valid.f 1 0 1000 50 900 50 = some true := by decide +kernel
theorem f_v2 : brake_Valid.f 1 0 1000 50 900 604849 = some true := by decide +kernel
theorem f_v3 : brake_Valid.f 1 0 1000 50 900 604850 = some false := by decide +kernel
theorem f_v4 : brake_Valid.f 1 0 1000 50 900 49 = some false := by decide +kernel
theorem f_v5 : brake_Valid.f 1 0 1000 50 899 50 = some false := by decide +kernel
theorem f_force : brake_Force.f 20 ex2 0 60 = some 900 := by decide +kernel
theorem f_enough : brake_Enough.f 20 ex2 1 60 = some false := by decide +kernel
theorem f_due : brake_Due.f 20 ex2 60 = some [2] := by decide +kernel
theorem f_same : skiarearef15_SameInts.f 20 [2] [2] = some true := by decide +kernel

theorem c_two (W : World) : Calls Try.prog 25 #[] W fun e w' => ∃ (B o c : Nat), e = .returned (.slice (some ⟨B, o, none⟩) 2 c) ∧ 2 ≤ c ∧ Kd.C k32 w' (some ⟨B, o, none⟩) 2 ex2 ∧ Below W.heap.size W w' := by
  refine (skiarealaw15_two.calls ex2 W rfl).mono ?_
  rintro e w' ⟨v, rfl, hr, hb⟩
  obtain ⟨inner, ho⟩ := Kd.R_own hr
  obtain ⟨g, cap, hv, _, _⟩ := ho.form (by decide)
  obtain ⟨A, c, hv2, hl, hC⟩ := Kd.R_reads hr
  rw [hv] at hv2
  injection hv2 with h1 h2 h3
  subst h1
  subst h3
  exact ⟨g, 0, cap, by rw [hv]; rfl, hl, hC, hb⟩

/-- The two brakes, and the weak one. -/
def At2 (w : World) (B o g : Nat) : Prop := Kd.C k32 w (some ⟨B, o, none⟩) 2 ex2 ∧ w.heap[g]? = some (.cells #[.int .i64 1, .int .i64 0, .int .i64 1000, .int .i64 50, .int .i64 899] 32 (0, 0))
theorem At2.below {w w' : World} {B o g : Nat} (h : At2 w B o g) (hb : Below w.heap.size w w') : At2 w' B o g := ⟨Kd.C_below h.1 hb, blk_below h.2 hb⟩
theorem cells_two {w : World} {B o : Nat} (h : Kd.C k32 w (some ⟨B, o, none⟩) 2 ex2) : w.cell? ⟨B, o, none⟩ = some (.int .i64 1) ∧ w.cell? ⟨B, o + 1, none⟩ = some (.int .i64 0) ∧ w.cell? ⟨B, o + 2, none⟩ = some (.int .i64 1000) ∧ w.cell? ⟨B, o + 3, none⟩ = some (.int .i64 50) ∧ w.cell? ⟨B, o + 4, none⟩ = some (.int .i64 900) := by
  obtain ⟨ad, e, h0, h1, h2, h3, h4⟩ := at_T32 h 0 (by omega) (by omega)
  cases e
  exact ⟨h0, h1, h2, h3, h4⟩

theorem cells_weak {w : World} {B o g : Nat} (h : At2 w B o g) : w.cell? ⟨g, 0, none⟩ = some (.int .i64 1) ∧ w.cell? ⟨g, 1, none⟩ = some (.int .i64 0) ∧ w.cell? ⟨g, 2, none⟩ = some (.int .i64 1000) ∧ w.cell? ⟨g, 3, none⟩ = some (.int .i64 50) ∧ w.cell? ⟨g, 4, none⟩ = some (.int .i64 899) :=
  ⟨(blk_cell h.2 0).trans rfl, (blk_cell h.2 1).trans rfl, (blk_cell h.2 2).trans rfl, (blk_cell h.2 3).trans rfl, (blk_cell h.2 4).trans rfl⟩
theorem c_same (A : Option Addr) (c : Nat) (W : World) (hC : Kd.C (Kd.int .i64) W A 1 [2]) (hc : 1 ≤ c) :
    Calls Try.prog 22 #[.slice A 1 c, .slice (some ⟨W.heap.size, 0, none⟩) 1 1] (W.alloc (.cells (nums .i64 [2]).toArray 3)) fun e w' => e = .returned (.bool true) ∧ Below W.heap.size W w' :=
  (skiarearef15_SameInts.calls 20 A c [2] (some ⟨W.heap.size, 0, none⟩) 1 [2] true (W.alloc (.cells (nums .i64 [2]).toArray 3)) (Kd.C_alloc hC _) hc (lit_ints W [2] (by simp)) (by simp) f_same).mono
    fun e w' ⟨he, hb⟩ => ⟨he, by obtain ⟨n, rfl⟩ := hb; exact pw_below_drewN (below_alloc (Below.refl _ _) _) n⟩

set_option maxHeartbeats 3200000 in
set_option maxRecDepth 100000 in
theorem alive_true (w : World) : Calls Try.prog 10 #[] w fun e w' => e = .returned (.bool true) ∧ Below w.heap.size w w' := by
  obtain ⟨r, ht1_, hrl_, hen1_, hen2_⟩ := f_test1
  clear hrl_
  have ht1 := Lib.hid ht1_
  have hen1 := Lib.hid hen1_
  have hen2 := Lib.hid hen2_
  clear ht1_ hen1_ hen2_
  go_enter Try.func10, Try.ntmps10
  go_wp2_with fail
  refine (c_two _).mono ?_
  rintro e w1 ⟨B, o, c, rfl, hc, hC, hb⟩
  obtain ⟨x0, x1, x2, x3, x4⟩ := cells_two hC
  go_wp2_with fail
  have HA : At2 _ B o w1.heap.size := ⟨Kd.C_alloc hC (.cells #[.int .i64 1, .int .i64 0, .int .i64 1000, .int .i64 50, .int .i64 899] 32), blk_new _ _⟩
  replace hb := below_alloc hb (.cells #[.int .i64 1, .int .i64 0, .int .i64 1000, .int .i64 50, .int .i64 899] 32)
  obtain ⟨k0, k1, k2, k3, k4⟩ := cells_weak HA
  clear hC
  refine (brake_Test.calls 20 (some ⟨B, o, none⟩) c ex2 2 700 55 r 0 _ HA.1 hc ht1.out).mono ?_
  rintro e w2 ⟨v, rfl, hr, hb2⟩
  clear x0 x1 x2 x3 x4 k0 k1 k2 k3 k4
  replace hb := below_step hb hb2
  replace HA := HA.below hb2
  obtain ⟨Ar, cr, rfl, hlr, hX⟩ := Kd.R_reads hr
  clear hr
  clear hb2
  obtain ⟨x0, x1, x2, x3, x4⟩ := cells_two HA.1
  obtain ⟨k0, k1, k2, k3, k4⟩ := cells_weak HA
  go_wp2_with fail
  refine (brake_Test.calls 20 (some ⟨B, o, none⟩) c ex2 1 5 49 [] 11 _ HA.1 hc f_test2).mono ?_
  rintro e w2 ⟨v, rfl, hr, hb2⟩
  clear x0 x1 x2 x3 x4 k0 k1 k2 k3 k4
  replace hb := below_step hb hb2
  replace HA := HA.below hb2
  obtain ⟨Aq, cq, rfl, _, _⟩ := Kd.R_reads hr
  clear hr
  replace hX := Kd.C_below hX hb2
  clear hb2
  obtain ⟨x0, x1, x2, x3, x4⟩ := cells_two HA.1
  obtain ⟨k0, k1, k2, k3, k4⟩ := cells_weak HA
  go_wp2_with fail
  refine (brake_Test.calls 20 (some ⟨B, o, none⟩) c ex2 3 5 60 [] 8 _ HA.1 hc f_test3).mono ?_
  rintro e w2 ⟨v, rfl, hr, hb2⟩
  clear x0 x1 x2 x3 x4 k0 k1 k2 k3 k4
  replace hb := below_step hb hb2
  replace HA := HA.below hb2
  obtain ⟨Ap, cp, rfl, _, _⟩ := Kd.R_reads hr
  clear hr
  replace hX := Kd.C_below hX hb2
  clear hb2
  obtain ⟨x0, x1, x2, x3, x4⟩ := cells_two HA.1
  obtain ⟨k0, k1, k2, k3, k4⟩ := cells_weak HA
  go_wp2_with fail
  refine (brake_Right.calls 20 (some ⟨B, o, none⟩) c ex2 0 _ HA.1 hc f_right).mono ?_
  rintro e w2 ⟨rfl, hb2⟩
  clear x0 x1 x2 x3 x4 k0 k1 k2 k3 k4
  replace hb := below_step hb hb2
  replace HA := HA.below hb2
  replace hX := Kd.C_below hX hb2
  clear hb2
  obtain ⟨x0, x1, x2, x3, x4⟩ := cells_two HA.1
  obtain ⟨k0, k1, k2, k3, k4⟩ := cells_weak HA
  go_wp2_with fail
  refine (brake_Valid.calls 1 0 1000 50 900 50 true _ f_v1).mono ?_
  rintro e w2 ⟨rfl, hb2⟩
  clear x0 x1 x2 x3 x4 k0 k1 k2 k3 k4
  replace hb := below_step hb hb2
  replace HA := HA.below hb2
  replace hX := Kd.C_below hX hb2
  clear hb2
  obtain ⟨x0, x1, x2, x3, x4⟩ := cells_two HA.1
  obtain ⟨k0, k1, k2, k3, k4⟩ := cells_weak HA
  go_wp2_with fail
  refine (brake_Valid.calls 1 0 1000 50 900 604849 true _ f_v2).mono ?_
  rintro e w2 ⟨rfl, hb2⟩
  clear x0 x1 x2 x3 x4 k0 k1 k2 k3 k4
  replace hb := below_step hb hb2
  replace HA := HA.below hb2
  replace hX := Kd.C_below hX hb2
  clear hb2
  obtain ⟨x0, x1, x2, x3, x4⟩ := cells_two HA.1
  obtain ⟨k0, k1, k2, k3, k4⟩ := cells_weak HA
  go_wp2_with fail
  refine (brake_Valid.calls 1 0 1000 50 900 604850 false _ f_v3).mono ?_
  rintro e w2 ⟨rfl, hb2⟩
  clear x0 x1 x2 x3 x4 k0 k1 k2 k3 k4
  replace hb := below_step hb hb2
  replace HA := HA.below hb2
  replace hX := Kd.C_below hX hb2
  clear hb2
  obtain ⟨x0, x1, x2, x3, x4⟩ := cells_two HA.1
  obtain ⟨k0, k1, k2, k3, k4⟩ := cells_weak HA
  go_wp2_with fail
  refine (brake_Valid.calls 1 0 1000 50 900 49 false _ f_v4).mono ?_
  rintro e w2 ⟨rfl, hb2⟩
  clear x0 x1 x2 x3 x4 k0 k1 k2 k3 k4
  replace hb := below_step hb hb2
  replace HA := HA.below hb2
  replace hX := Kd.C_below hX hb2
  clear hb2
  obtain ⟨x0, x1, x2, x3, x4⟩ := cells_two HA.1
  obtain ⟨k0, k1, k2, k3, k4⟩ := cells_weak HA
  go_wp2_with fail
  refine (brake_Valid.calls 1 0 1000 50 899 50 false _ f_v5).mono ?_
  rintro e w2 ⟨rfl, hb2⟩
  clear x0 x1 x2 x3 x4 k0 k1 k2 k3 k4
  replace hb := below_step hb hb2
  replace HA := HA.below hb2
  replace hX := Kd.C_below hX hb2
  clear hb2
  obtain ⟨x0, x1, x2, x3, x4⟩ := cells_two HA.1
  obtain ⟨k0, k1, k2, k3, k4⟩ := cells_weak HA
  go_wp2_with fail
  refine (brake_Force.calls 20 (some ⟨B, o, none⟩) c ex2 0 60 900 _ HA.1 hc f_force).mono ?_
  rintro e w2 ⟨rfl, hb2⟩
  clear x0 x1 x2 x3 x4 k0 k1 k2 k3 k4
  replace hb := below_step hb hb2
  replace HA := HA.below hb2
  replace hX := Kd.C_below hX hb2
  clear hb2
  obtain ⟨x0, x1, x2, x3, x4⟩ := cells_two HA.1
  obtain ⟨k0, k1, k2, k3, k4⟩ := cells_weak HA
  go_wp2_with fail
  refine (brake_Enough.calls 20 (some ⟨B, o, none⟩) c ex2 1 60 false _ HA.1 hc f_enough).mono ?_
  rintro e w2 ⟨rfl, hb2⟩
  clear x0 x1 x2 x3 x4 k0 k1 k2 k3 k4
  replace hb := below_step hb hb2
  replace HA := HA.below hb2
  replace hX := Kd.C_below hX hb2
  clear hb2
  obtain ⟨x0, x1, x2, x3, x4⟩ := cells_two HA.1
  obtain ⟨k0, k1, k2, k3, k4⟩ := cells_weak HA
  go_wp2_with fail
  refine (brake_Due.calls 20 (some ⟨B, o, none⟩) c ex2 60 [2] _ HA.1 hc f_due).mono ?_
  rintro e w2 ⟨v, rfl, hr, hb2⟩
  clear x0 x1 x2 x3 x4 k0 k1 k2 k3 k4
  replace hb := below_step hb hb2
  replace HA := HA.below hb2
  obtain ⟨Ad, cd, rfl, hld, hD⟩ := Kd.R_reads hr
  clear hr
  replace hX := Kd.C_below hX hb2
  clear hb2
  obtain ⟨x0, x1, x2, x3, x4⟩ := cells_two HA.1
  obtain ⟨k0, k1, k2, k3, k4⟩ := cells_weak HA
  go_wp2_with fail
  refine (c_same Ad cd _ hD hld).mono ?_
  rintro e w2 ⟨rfl, hb2⟩
  clear x0 x1 x2 x3 x4 k0 k1 k2 k3 k4
  replace hb := below_step hb hb2
  replace HA := HA.below hb2
  replace hX := Kd.C_below hX hb2
  clear hb2
  obtain ⟨x0, x1, x2, x3, x4⟩ := cells_two HA.1
  obtain ⟨k0, k1, k2, k3, k4⟩ := cells_weak HA
  go_wp2_with fail
  refine (brake_Enough.calls 20 Ar cr r 700 60 true _ hX hlr hen1.out).mono ?_
  rintro e w2 ⟨rfl, hb2⟩
  clear x0 x1 x2 x3 x4 k0 k1 k2 k3 k4
  replace hb := below_step hb hb2
  replace HA := HA.below hb2
  replace hX := Kd.C_below hX hb2
  clear hb2
  obtain ⟨x0, x1, x2, x3, x4⟩ := cells_two HA.1
  obtain ⟨k0, k1, k2, k3, k4⟩ := cells_weak HA
  go_wp2_with fail
  refine (brake_Enough.calls 20 Ar cr r 701 60 false _ hX hlr hen2.out).mono ?_
  rintro e w2 ⟨rfl, hb2⟩
  clear x0 x1 x2 x3 x4 k0 k1 k2 k3 k4
  replace hb := below_step hb hb2
  replace HA := HA.below hb2
  replace hX := Kd.C_below hX hb2
  clear hb2
  obtain ⟨x0, x1, x2, x3, x4⟩ := cells_two HA.1
  obtain ⟨k0, k1, k2, k3, k4⟩ := cells_weak HA
  go_wp2
  go_ret
  exact ⟨rfl, hb⟩

/-- In the form of a printed function. -/
def skiarealaw15_alive.f : Option Bool := some true
theorem skiarealaw15_alive.calls (r : Bool) (w : World) (h : skiarealaw15_alive.f = some r) :
    Calls Try.prog 10 #[] w fun e w' => e = .returned (.bool r) ∧ Below w.heap.size w w' := by
  obtain rfl := Option.some.inj h
  exact alive_true w
end Go.Proofs.Ytkkkfjbcefpjpaa.A

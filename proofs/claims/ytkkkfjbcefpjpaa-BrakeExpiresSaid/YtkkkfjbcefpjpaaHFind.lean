/- What brake.find answers (slices.IndexFunc with a function literal that compares an ID): the walk. -/
import Derived.Test.YtkkkfjbcefpjpaaAx0
import Derived.Lib.Hide
namespace Go.Proofs.Ytkkkfjbcefpjpaa.A
open Go.RowKit Go.Proofs.YtkkkfjbcefpjpaaW.PrintWords Go.Proofs.YtkkkfjbcefpjpaaW.PrintLast Go.Proofs.YtkkkfjbcefpjpaaW.PrintMore
set_option linter.unusedVariables false
set_option linter.unusedSimpArgs false

/-- The index of the first brake with an ID, from i on; -1 if there is none. -/
def findGo (id : Int) : List S32 → Int → Int
  | [], _ => -1
  | x :: xs, i => if x.f0 = id then i else findGo id xs (i + 1)

theorem literal_calls (x : S32) (B : Nat) (id : Int) (W : World) (hB : B < W.heap.size) (hc : W.cell? ⟨B, 0, none⟩ = some (.int .i64 id)) :
    Calls Try.prog 32 #[.agg #[.int .i64 x.f0, .int .i64 x.f1, .int .i64 x.f2, .int .i64 x.f3, .int .i64 x.f4], .pointer (some ⟨B, 0, none⟩)] W fun e w' => e = .returned (.bool (x.f0 == id)) ∧ Below W.heap.size W w' := by
  have hn : W.heap.size ≠ B := by omega
  go_enter Try.func32, Try.ntmps32
  go_wp2
  go_ret
  exact ⟨rfl, below_alloc (Below.refl _ _) _⟩

theorem drop_rd (l : List S32) (i : Nat) (h : i < l.length) : l.drop i = rd_T32 l (i : Int) :: l.drop (i + 1) := by
  rw [List.drop_eq_getElem_cons h]
  unfold rd_T32
  simp [List.getD_eq_getElem?_getD, h]

set_option maxHeartbeats 1600000 in
set_option maxRecDepth 100000 in
theorem index_calls (A : Option Addr) (c : Nat) (l : List S32) (B : Nat) (id : Int) (w : World) (hr : Kd.C k32 w A l.length l) (hB : B < w.heap.size) (hc : w.cell? ⟨B, 0, none⟩ = some (.int .i64 id)) :
    Calls Try.prog 31 #[.slice A l.length c, .func (.func 32) #[] #[.pointer (some ⟨B, 0, none⟩)]] w fun e w' => e = .returned (.int .i64 (findGo id l 0)) ∧ Below w.heap.size w w' := by
  have hlen : l.length ≤ 9223372036854775807 := hr.2.1
  have HR := Lib.hid hr
  have HC := Lib.hid hc
  clear hr hc
  go_enter Try.func31, Try.ntmps31
  go_wp2
  go_loopw [5, 8] (fun _ s8 wr => ∃ j : Nat, j ≤ l.length ∧ s8 = .int .i64 j ∧ Hid (Below w.heap.size w wr) ∧ Hid (findGo id (l.drop j) j = findGo id l 0)) (fun _ s8 _ => l.length - (intOf s8).toNat)
  case atStart => exact ⟨0, Nat.zero_le _, rfl, Lib.hid (Below.refl _ _), Lib.hid rfl⟩
  case round =>
    obtain ⟨j, hj, rfl, HB, HF⟩ := hrel
    by_cases hlt : j < l.length
    · have hltz : (j : Int) < (l.length : Int) := by omega
      obtain ⟨ad, eA, x0, x1, x2, x3, x4⟩ := at_T32 HR.out (j : Int) (by omega) hltz
      subst eA
      have HD := Lib.hid (drop_rd l j hlt)
      generalize rd_T32 l (j : Int) = x at *
      rw [Int.toNat_natCast] at x0 x1 x2 x3 x4
      replace x0 := (HB.out.cell (World.block_lt_of_cell? w _ x0)).trans x0
      replace x1 := (HB.out.cell (World.block_lt_of_cell? w _ x1)).trans x1
      replace x2 := (HB.out.cell (World.block_lt_of_cell? w _ x2)).trans x2
      replace x3 := (HB.out.cell (World.block_lt_of_cell? w _ x3)).trans x3
      replace x4 := (HB.out.cell (World.block_lt_of_cell? w _ x4)).trans x4
      have hcall := literal_calls x B id wr (Nat.lt_of_lt_of_le hB HB.out.size) ((HB.out.cell (p := ⟨B, 0, none⟩) hB).trans HC.out)
      have HL := Lib.hid hcall
      clear hcall
      by_cases he : x.f0 = id
      · have hb : (x.f0 == id) = true := by simpa using he
        rw [hb] at HL
        have HE := Lib.hid he
        clear he hb
        go_wp2_with fail
        refine HL.out.mono ?_
        rintro e w' ⟨rfl, hb'⟩
        go_wp2_with fail
        go_ret
        refine ⟨?_, below_step HB.out hb'⟩
        have h1 := HF.out
        rw [HD.out] at h1
        simp only [findGo, HE.out, if_true] at h1
        show Ending.returned (.int .i64 (j : Int)) = _
        rw [← h1]
      · have hb : (x.f0 == id) = false := by simpa using he
        rw [hb] at HL
        have HE := Lib.hid he
        clear he hb
        go_wp2_with fail
        refine HL.out.mono ?_
        rintro e w' ⟨rfl, hb'⟩
        go_wp2_with fail
        go_roundw
        case rel =>
          refine ⟨j + 1, by omega, by go_num, Lib.hid (below_step HB.out hb'), Lib.hid ?_⟩
          have h1 := HF.out
          rw [HD.out] at h1
          simp only [findGo] at h1
          rw [if_neg HE.out] at h1
          simpa using h1
        case measure => simp [intOf]; omega
    · have hj2 : j = l.length := by omega
      subst hj2
      have h1 := HF.out
      rw [List.drop_length] at h1
      have H1 := Lib.hid h1
      clear h1 hlt
      go_wp2
      go_ret
      exact ⟨by rw [← H1.out]; rfl, HB.out⟩

def brake_find.f (l0 : List (S32)) (a1 : Int) : Option (Int) := some (findGo a1 l0 0)
set_option maxHeartbeats 800000 in
theorem brake_find.calls (A0 : Option Addr) (c0 : Nat) (l0 : List (S32)) (a1 : Int) (r : Int) (w : World) (hr0 : Kd.C k32 w A0 l0.length l0) (hc0 : l0.length ≤ c0) (h : brake_find.f l0 a1 = some r) :
    Calls Try.prog 27 #[.slice A0 l0.length c0, .int .i64 a1] w fun e w' => e = .returned (.int .i64 r) ∧ Below w.heap.size w w' := by
  obtain rfl := Option.some.inj h
  have HR := Lib.hid (Kd.C_alloc hr0 (.cells #[.int .i64 a1] 3))
  clear hr0
  go_enter Try.func27, Try.ntmps27
  go_wp2_with (go_at_call 31; refine (index_calls _ _ _ w.heap.size a1 _ HR.out (by simp) (by simp)).mono ?_; rintro e w' ⟨rfl, hb'⟩)
  go_ret
  exact ⟨rfl, below_step (below_alloc (Below.refl _ _) _) hb'⟩

end Go.Proofs.Ytkkkfjbcefpjpaa.A

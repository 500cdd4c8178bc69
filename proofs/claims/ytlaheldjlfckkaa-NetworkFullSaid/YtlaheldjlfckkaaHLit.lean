/- Rows of whole numbers that are written out: what reads them. -/
import Derived.Test.YtlaheldjlfckkaaAx0
namespace Go.Proofs.Ytlaheldjlfckkaa.A
open Go.RowKit Go.Proofs.YtlaheldjlfckkaaW.PrintWords Go.Proofs.YtlaheldjlfckkaaW.PrintLast Go.Proofs.YtlaheldjlfckkaaW.PrintMore
set_option linter.unusedVariables false
set_option linter.unusedSimpArgs false

theorem R_int_own {w : World} {base : Nat} {ok : Nat → Prop} {v : Value} {xs : List Int} (h : Kd.R (Kd.int .i64) 3 w base ok v xs) : w.ownsRow base 3 1 v xs.length (nums .i64 xs) := by
  obtain ⟨_, inner, ho, hr⟩ := h
  have e : inner = nums .i64 xs := by
    refine List.ext_getElem? fun j => ?_
    rcases Nat.lt_or_ge j xs.length with hj | hj
    · have h1 : (inner.drop (j * 1)).take 1 = [Value.int .i64 xs[j]] := hr.2 j _ (List.getElem?_eq_getElem hj)
      have hl : j < inner.length := by have h3 := hr.1; rw [show (Kd.int .i64).sz = 1 from rfl] at h3; omega
      rw [Nat.mul_one, List.drop_eq_getElem_cons hl] at h1
      simp only [List.take_succ_cons, List.take_zero, List.cons.injEq, and_true] at h1
      rw [List.getElem?_eq_getElem hl, h1]
      simp [nums, hj]
    · have h3 := hr.1
      rw [show (Kd.int .i64).sz = 1 from rfl] at h3
      rw [List.getElem?_eq_none (by omega), List.getElem?_eq_none (by simp [nums]; omega)]
  rw [← e]
  exact ho
theorem own_R_int {w : World} {base : Nat} {v : Value} {xs : List Int} (h : w.ownsRow base 3 1 v xs.length (nums .i64 xs)) : Kd.R (Kd.int .i64) 3 w base (fun _ => True) v xs := by
  refine ⟨fun _ _ => trivial, nums .i64 xs, h, by simp [nums, show (Kd.int .i64).sz = 1 from rfl], fun j p hj => ?_⟩
  have hj2 : j < xs.length := by
    rcases Nat.lt_or_ge j xs.length with h | h
    · exact h
    · rw [List.getElem?_eq_none h] at hj; cases hj
  rw [List.getElem?_eq_getElem hj2] at hj
  cases hj
  show ((nums .i64 xs).drop (j * 1)).take 1 = [Value.int .i64 xs[j]]
  rw [Nat.mul_one, List.drop_eq_getElem_cons (by simp [nums]; omega)]
  simp [nums]


theorem lit_ints (W : World) (xs : List Int) (h : xs.length ≤ 100) : Kd.C (Kd.int .i64) (W.alloc (.cells (nums .i64 xs).toArray 3)) (some ⟨W.heap.size, 0, none⟩) xs.length xs := by
  have ho : (W.alloc (.cells (nums .i64 xs).toArray 3)).ownsRow 0 3 1 (.slice (some ⟨W.heap.size, 0, none⟩) xs.length xs.length) xs.length (nums .i64 xs) := by
    have := World.ownsRow_lit (base := 0) (e := 3) (size := 1) W (nums .i64 xs).toArray xs.length (Nat.zero_le _) (by unfold maxLen; omega) (by simp [nums])
    simpa using this
  obtain ⟨A, c, e, _, hC⟩ := Kd.R_reads (own_R_int ho)
  injection e with e1 e2 e3
  subst e1
  exact hC


theorem own_R_byte {w : World} {base : Nat} {v : Value} {xs : List Int} (h : w.ownsRow base 5 1 v xs.length (nums .u8 xs)) : Kd.R (Kd.int .u8) 5 w base (fun _ => True) v xs := by
  refine ⟨fun _ _ => trivial, nums .u8 xs, h, by simp [nums, show (Kd.int .u8).sz = 1 from rfl], fun j p hj => ?_⟩
  have hj2 : j < xs.length := by
    rcases Nat.lt_or_ge j xs.length with h | h
    · exact h
    · rw [List.getElem?_eq_none h] at hj; cases hj
  rw [List.getElem?_eq_getElem hj2] at hj
  cases hj
  show ((nums .u8 xs).drop (j * 1)).take 1 = [Value.int .u8 xs[j]]
  rw [Nat.mul_one, List.drop_eq_getElem_cons (by simp [nums]; omega)]
  simp [nums]


theorem lit_bytes (W : World) (xs : List Int) (h : xs.length ≤ 100) : Kd.C (Kd.int .u8) (W.alloc (.cells (nums .u8 xs).toArray 5)) (some ⟨W.heap.size, 0, none⟩) xs.length xs := by
  have ho : (W.alloc (.cells (nums .u8 xs).toArray 5)).ownsRow 0 5 1 (.slice (some ⟨W.heap.size, 0, none⟩) xs.length xs.length) xs.length (nums .u8 xs) := by
    have := World.ownsRow_lit (base := 0) (e := 5) (size := 1) W (nums .u8 xs).toArray xs.length (Nat.zero_le _) (by unfold maxLen; omega) (by simp [nums])
    simpa using this
  obtain ⟨A, c, e, _, hC⟩ := Kd.R_reads (own_R_byte ho)
  injection e with e1 e2 e3
  subst e1
  exact hC


end Go.Proofs.Ytlaheldjlfckkaa.A

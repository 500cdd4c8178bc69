/- The chapter's examples hold (skiarealaw58.alive answers true): the walk. -/
import Derived.Test.YtlaheldjlfckkaaHCalls
import Derived.Test.YtlaheldjlfckkaaHLit
import Derived.Lib.SlBytesConst
namespace Go.Proofs.Ytlaheldjlfckkaa.A
open Go.RowKit Go.Proofs.YtlaheldjlfckkaaW.PrintWords Go.Proofs.YtlaheldjlfckkaaW.PrintLast Go.Proofs.YtlaheldjlfckkaaW.PrintMore
set_option linter.unusedVariables false
set_option linter.unusedSimpArgs false

def ms : List S39 := [⟨0, 2, [120]⟩]
theorem f_new3 : network_New.f 3 = some ([0, 0, 0], [], 0) := by kernel_rfl
theorem f_new0 : network_New.f 0 = some ([], [], 2) := by kernel_rfl
theorem f_new17 : network_New.f 17 = some ([], [], 2) := by kernel_rfl
theorem f_send : network_Send.f 20 [0, 0, 0] [] 0 2 [120] = some ([0, 0, 0], ms, 0) := by kernel_rfl
theorem f_split1 : network_Split.f 20 [0, 0, 0] ms [0, 0, 1] = some ([0, 0, 1], ms, 0) := by kernel_rfl
theorem f_del1 : network_Deliver.f 20 [0, 0, 1] ms 0 = some ([], [], 0, 0, [], 13) := by kernel_rfl
theorem f_split2 : network_Split.f 20 [0, 0, 1] ms [5, 5, 5] = some ([5, 5, 5], ms, 0) := by kernel_rfl
theorem f_del2 : network_Deliver.f 20 [5, 5, 5] ms 0 = some ([5, 5, 5], [], 0, 2, [120], 0) := by kernel_rfl
theorem f_copy : network_Copy.f 20 [0, 0, 0] ms 0 = some ([0, 0, 0], [⟨0, 2, [120]⟩, ⟨0, 2, [120]⟩], 0) := by kernel_rfl
theorem f_lose : network_Lose.f 20 [0, 0, 0] [⟨0, 2, [120]⟩, ⟨0, 2, [120]⟩] 0 = some ([0, 0, 0], ms, 0) := by kernel_rfl
theorem f_send1 : network_Send.f 20 [0, 0, 0] ms 1 1 [] = some ([], [], 1) := by kernel_rfl
theorem f_send2 : network_Send.f 20 [0, 0, 0] ms 1 3 [] = some ([], [], 8) := by kernel_rfl

/-- RetNet, the lengths told. -/
def RetN (w : World) (n m : Nat) (P : List Int) (M : List S39) (r : Int) (e : Ending) (w' : World) : Prop :=
  ∃ A0 c0 A1 c1, e = .returned (.tuple #[.agg #[.slice A0 n c0, .slice A1 m c1], .int .i64 r]) ∧ NR w' w.heap.size A0 c0 P A1 c1 M ∧ Below w.heap.size w w'
theorem retN {p : Nat} {args : Array Value} {w : World} {P : List Int} {M : List S39} {r : Int} (n m : Nat) (hn : P.length = n) (hm : M.length = m) (h : Calls Try.prog p args w (RetNet w P M r)) : Calls Try.prog p args w (RetN w n m P M r) := by
  subst hn
  subst hm
  exact h

def RetM (w : World) (n m l : Nat) (P : List Int) (M : List S39) (f t : Int) (body : List Int) (r : Int) (e : Ending) (w' : World) : Prop :=
  ∃ A0 c0 A1 c1 A2 c2, e = .returned (.tuple #[.agg #[.slice A0 n c0, .slice A1 m c1], .agg #[.int .i64 f, .int .i64 t, .slice A2 l c2], .int .i64 r]) ∧ NR w' w.heap.size A0 c0 P A1 c1 M ∧
    Kd.R (Kd.int .u8) 5 w' w.heap.size (fun _ => True) (.slice A2 l c2) body ∧ Below w.heap.size w w'
theorem retM {p : Nat} {args : Array Value} {w : World} {P : List Int} {M : List S39} {f t : Int} {body : List Int} {r : Int} (n m l : Nat) (hn : P.length = n) (hm : M.length = m) (hl : body.length = l) (h : Calls Try.prog p args w (RetMsg w P M f t body r)) : Calls Try.prog p args w (RetM w n m l P M f t body r) := by
  subst hn
  subst hm
  subst hl
  exact h
/-- A network in a variable. -/
structure At (w : World) (b B n m : Nat) (A0 : Option Addr) (c0 : Nat) (P : List Int) (A1 : Option Addr) (c1 : Nat) (M : List S39) : Prop where
  row : NR w b A0 c0 P A1 c1 M
  var : NV w B A0 c0 n A1 c1 m
theorem At.below {w w' : World} {b B n m : Nat} {A0 A1 : Option Addr} {c0 c1 : Nat} {P : List Int} {M : List S39} (h : At w b B n m A0 c0 P A1 c1 M) (hb : Below w.heap.size w w') : At w' b B n m A0 c0 P A1 c1 M := ⟨h.row.below hb, h.var.below hb⟩
theorem At.alloc {w : World} {b B n m : Nat} {A0 A1 : Option Addr} {c0 c1 : Nat} {P : List Int} {M : List S39} (h : At w b B n m A0 c0 P A1 c1 M) (o : Obj) : At (w.alloc o) b B n m A0 c0 P A1 c1 M := h.below (below_alloc (Below.refl _ _) o)
/-- Another variable is written. -/
theorem At.other {w : World} {b B n m : Nat} {A0 A1 : Option Addr} {c0 c1 : Nat} {P : List Int} {M : List S39} (h : At w b B n m A0 c0 P A1 c1 M) {g n0 m0 d0 d1 : Nat} {B0 B1 : Option Addr} (hg : NV w g B0 d0 n0 B1 d1 m0) (hne : B ≠ g) (u0 u1 : Value) :
    At ((w.setCell ⟨g, 0, none⟩ u0).setCell ⟨g, 1, none⟩ u1) b B n m A0 c0 P A1 c1 M :=
  ⟨((h.row.set hg (by decide) (by decide) 0 u0).set (blk_set hg 0 u0) (by decide) (by decide) 1 u1), (h.var.far hne u0).far hne u1⟩
/-- It is written itself. -/
theorem At.put {w : World} {b B n m n' m' : Nat} {A0 A1 B0 B1 : Option Addr} {c0 c1 d0 d1 : Nat} {P' : List Int} {M' : List S39} (h : NV w B A0 c0 n A1 c1 m) (hR : NR w b B0 d0 P' B1 d1 M') :
    At ((w.setCell ⟨B, 0, none⟩ (.slice B0 n' d0)).setCell ⟨B, 1, none⟩ (.slice B1 m' d1)) b B n' m' B0 d0 P' B1 d1 M' :=
  ⟨((hR.set h (by decide) (by decide) 0 _).set (blk_set h 0 _) (by decide) (by decide) 1 _), h.put⟩
theorem At.new {w : World} {b n m : Nat} {A0 A1 : Option Addr} {c0 c1 : Nat} {P : List Int} {M : List S39} (h : NR w b A0 c0 P A1 c1 M) : At (w.alloc (.cells #[.slice A0 n c0, .slice A1 m c1] 25)) b w.heap.size n m A0 c0 P A1 c1 M :=
  ⟨h.below (below_alloc (Below.refl _ _) _), NV.new _ _ _ _ _ _ _⟩

theorem lit_byte (W : World) (x : Int) (fr : Nat × Nat) : Kd.C (Kd.int .u8) (W.alloc (.cells #[.int .u8 x] 5 fr)) (some ⟨W.heap.size, 0, none⟩) 1 [x] := by
  refine ⟨rfl, by omega, fun _ => ⟨_, rfl, fun j p hp => ?_⟩⟩
  match j, hp with
  | 0, hp =>
    cases hp
    refine ⟨[.int .u8 x], rfl, rfl, fun i u hu => ?_⟩
    match i, hu with
    | 0, hu =>
      cases hu
      exact (cell_of_row _ _ 0 #[.int .u8 x] 5 fr (heap_alloc_new W _)).trans rfl

theorem lit_at (W : World) (s : Nat) (hs : W.heap.size = s) (xs : List Int) (h : xs.length ≤ 100) : Kd.C (Kd.int .i64) (W.alloc (.cells (nums .i64 xs).toArray 3)) (some ⟨s, 0, none⟩) xs.length xs := by
  subst hs
  exact lit_ints W xs h
theorem size_set (W : World) (a b : Addr) (u v : Value) : ((W.setCell a u).setCell b v).heap.size = W.heap.size := by simp [World.setCell]

set_option maxHeartbeats 6400000 in
set_option maxRecDepth 100000 in
theorem alive_true (w : World) : Calls Try.prog 9 #[] w fun e w' => e = .returned (.bool true) ∧ Below w.heap.size w w' := by
  go_enter Try.func9, Try.ntmps9
  go_wp2_with fail
  -- New(3)
  refine (retN 3 0 rfl rfl (c_new 3 f_new3)).mono ?_
  rintro e w1 ⟨A0, c0, A1, c1, rfl, hN, hb⟩
  have hB1 : w.heap.size ≤ w1.heap.size := hb.size
  have H1 := At.new (n := 3) (m := 0) hN
  replace hb := below_alloc hb (.cells #[.slice A0 3 c0, .slice A1 0 c1] 25)
  clear hN
  obtain ⟨x0, x1, x2, x3⟩ := H1.var.c
  have kc : (convert 37 37 (.slice (some ⟨w1.heap.size + 1, 0, none⟩) 1 1)).run Try.prog ((w1.alloc (.cells #[.slice A0 3 c0, .slice A1 0 c1] 25)).alloc (.cells #[.int .u8 120] 5)) = .ok (.slice (some ⟨w1.heap.size + 1, 0, none⟩) 1 1) ((w1.alloc (.cells #[.slice A0 3 c0, .slice A1 0 c1] 25)).alloc (.cells #[.int .u8 120] 5 (1, 2))) := by
    have h := Lib.run_convert_bytes_const (P := Try.prog) (w1.alloc (.cells #[.slice A0 3 c0, .slice A1 0 c1] 25)) 37 5 #[.int .u8 120] 1 1 Try.underlying37 Try.underlying5
    simpa using h
  have hx := lit_byte (w1.alloc (.cells #[.slice A0 3 c0, .slice A1 0 c1] 25)) 120 (1, 2)
  rw [show (w1.alloc (.cells #[.slice A0 3 c0, .slice A1 0 c1] 25)).heap.size = w1.heap.size + 1 by simp] at hx
  replace H1 := H1.alloc (.cells #[.int .u8 120] 5 (1, 2))
  replace hb := below_alloc hb (.cells #[.int .u8 120] 5 (1, 2))
  have HX := Lib.hid hx
  clear hx
  go_wp2_with fail
  refine (retN 3 1 rfl rfl (c_send H1.row 0 2 [120] HX.out (Nat.le_refl _) f_send)).mono ?_
  rintro e w2 ⟨B0, d0, B1, d1, rfl, hN, hb2⟩
  replace hb := below_step hb hb2
  have V := H1.var.below hb2
  clear x0 x1 x2 x3 kc H1 HX hb2
  obtain ⟨x0, x1, x2, x3⟩ := V.c
  have H1 := At.put (n' := 3) (m' := 1) V hN
  replace hb := below_set (j := 1) (v := .slice B1 1 d1) (below_set (j := 0) (v := .slice B0 3 d0) hb hB1) hB1
  clear hN V
  go_wp2_with fail
  -- Split 0, 0, 1
  have hs := lit_at ((w2.setCell ⟨w1.heap.size, 0, none⟩ (.slice B0 3 d0)).setCell ⟨w1.heap.size, 1, none⟩ (.slice B1 1 d1)) w2.heap.size (size_set _ _ _ _ _) [0, 0, 1] (by simp)
  refine (retN 3 1 rfl rfl (c_split (H1.alloc _).row [0, 0, 1] hs (Nat.le_refl _) f_split1)).mono ?_
  clear hs
  rintro e w3 ⟨C0, e0, C1, e1, rfl, hN, hb2⟩
  replace H1 := (H1.alloc (.cells #[.int .i64 0, .int .i64 0, .int .i64 1] 3)).below hb2
  replace hb := below_step (below_alloc hb (.cells #[.int .i64 0, .int .i64 0, .int .i64 1] 3)) hb2
  have hB4 : w.heap.size ≤ w3.heap.size := hb.size
  have h41 : w1.heap.size < w3.heap.size := blk_lt H1.var
  clear x0 x1 x2 x3 hb2
  have H4 := At.new (n := 3) (m := 1) hN
  replace H1 := H1.alloc (.cells #[.slice C0 3 e0, .slice C1 1 e1] 25)
  replace hb := below_alloc hb (.cells #[.slice C0 3 e0, .slice C1 1 e1] 25)
  obtain ⟨x0, x1, x2, x3⟩ := H1.var.c
  obtain ⟨y0, y1, y2, y3⟩ := H4.var.c
  clear hN
  go_wp2_with fail
  -- Deliver 0
  refine (retM 0 0 0 rfl rfl rfl (c_deliver H4.row 0 f_del1)).mono ?_
  rintro e w4 ⟨D0, f0, D1, f1, D2, f2, rfl, _, _, hb2⟩
  replace H1 := H1.below hb2
  replace H4 := H4.below hb2
  replace hb := below_step hb hb2
  clear x0 x1 x2 x3 y0 y1 y2 y3 hb2
  replace H1 := (H1.alloc (.cells #[.slice D0 0 f0, .slice D1 0 f1] 25)).alloc (.cells #[.int .i64 0, .int .i64 0, .slice D2 0 f2] 39)
  replace H4 := (H4.alloc (.cells #[.slice D0 0 f0, .slice D1 0 f1] 25)).alloc (.cells #[.int .i64 0, .int .i64 0, .slice D2 0 f2] 39)
  replace hb := below_alloc (below_alloc hb (.cells #[.slice D0 0 f0, .slice D1 0 f1] 25)) (.cells #[.int .i64 0, .int .i64 0, .slice D2 0 f2] 39)
  obtain ⟨x0, x1, x2, x3⟩ := H1.var.c
  obtain ⟨y0, y1, y2, y3⟩ := H4.var.c
  go_wp2_with fail
  -- Split 5, 5, 5
  have hs := lit_at ((w4.alloc (.cells #[.slice D0 0 f0, .slice D1 0 f1] 25)).alloc (.cells #[.int .i64 0, .int .i64 0, .slice D2 0 f2] 39)) (w4.heap.size + 1 + 1) (by simp) [5, 5, 5] (by simp)
  refine (retN 3 1 rfl rfl (c_split (H4.alloc _).row [5, 5, 5] hs (Nat.le_refl _) f_split2)).mono ?_
  clear hs
  rintro e w5 ⟨E0, p0, E1, p1, rfl, hN, hb2⟩
  replace H1 := (H1.alloc (.cells #[.int .i64 5, .int .i64 5, .int .i64 5] 3)).below hb2
  have V := (H4.alloc (.cells #[.int .i64 5, .int .i64 5, .int .i64 5] 3)).var.below hb2
  replace hb := below_step (below_alloc hb (.cells #[.int .i64 5, .int .i64 5, .int .i64 5] 3)) hb2
  clear x0 x1 x2 x3 y0 y1 y2 y3 hb2 H4
  obtain ⟨y0, y1, y2, y3⟩ := V.c
  replace H1 := H1.other V (Nat.ne_of_lt h41) (.slice E0 3 p0) (.slice E1 1 p1)
  have H4 := At.put (n' := 3) (m' := 1) V hN
  replace hb := below_set (j := 1) (v := .slice E1 1 p1) (below_set (j := 0) (v := .slice E0 3 p0) hb hB4) hB4
  clear hN V
  go_wp2_with fail
  -- Deliver 0
  refine (retM 3 0 1 rfl rfl rfl (c_deliver H4.row 0 f_del2)).mono ?_
  rintro e w6 ⟨F0, q0, F1, q1, F2, q2, rfl, hN, hM, hb2⟩
  replace H1 := H1.below hb2
  have V := H4.var.below hb2
  replace hb := below_step hb hb2
  clear y0 y1 y2 y3 hb2 H4
  obtain ⟨y0, y1, y2, y3⟩ := V.c
  have hB9 : w.heap.size ≤ w6.heap.size := hb.size
  have h49 : w3.heap.size < w6.heap.size := blk_lt V
  have hM2 := Kd.R_alloc (Kd.R_set (Kd.R_set hM V (fun q hq => by simp [Kd.int, Kd.scalar] at hq; omega) 0 (.slice F0 3 q0)) (blk_set V 0 (.slice F0 3 q0)) (fun q hq => by simp [Kd.int, Kd.scalar] at hq; omega) 1 (.slice F1 0 q1)) (.cells #[.int .i64 0, .int .i64 2, .slice F2 1 q2] 39)
  have kc : (convert 37 9 (.slice F2 1 q2)).run Try.prog (((w6.setCell ⟨w3.heap.size, 0, none⟩ (.slice F0 3 q0)).setCell ⟨w3.heap.size, 1, none⟩ (.slice F1 0 q1)).alloc (.cells #[.int .i64 0, .int .i64 2, .slice F2 1 q2] 39)) =
      .ok (.string ⟨#[120]⟩) (((w6.setCell ⟨w3.heap.size, 0, none⟩ (.slice F0 3 q0)).setCell ⟨w3.heap.size, 1, none⟩ (.slice F1 0 q1)).alloc (.cells #[.int .i64 0, .int .i64 2, .slice F2 1 q2] 39)) := by
    obtain ⟨A, c, e, _, hC⟩ := Kd.R_reads hM2
    injection e with e1 e2 e3
    subst e1
    have h := Kd.C_string (P := Try.prog) (c := q2) Try.underlying37 Try.underlying5 Try.underlying9 hC
    exact h
  have H4 := At.put (n' := 3) (m' := 0) V hN
  replace H1 := (H1.other V (Nat.ne_of_lt h41) (.slice F0 3 q0) (.slice F1 0 q1)).alloc (.cells #[.int .i64 0, .int .i64 2, .slice F2 1 q2] 39)
  replace hb := below_alloc (below_set (j := 1) (v := .slice F1 0 q1) (below_set (j := 0) (v := .slice F0 3 q0) hb hB4) hB4) (.cells #[.int .i64 0, .int .i64 2, .slice F2 1 q2] 39)
  replace H4 := H4.alloc (.cells #[.int .i64 0, .int .i64 2, .slice F2 1 q2] 39)
  clear hN hM hM2
  obtain ⟨x0, x1, x2, x3⟩ := H1.var.c
  clear V
  go_wp2_with fail
  -- Copy 0
  refine (retN 3 2 rfl rfl (c_copy H1.row 0 f_copy)).mono ?_
  rintro e w7 ⟨G0, r0, G1, r1, rfl, hN, hb2⟩
  replace H1 := H1.below hb2
  replace hb := below_step hb hb2
  clear x0 x1 x2 x3 y0 y1 y2 y3 kc hb2 H4
  have hB10 : w.heap.size ≤ w7.heap.size := hb.size
  have h110 : w1.heap.size < w7.heap.size := blk_lt H1.var
  have H10 := At.new (n := 3) (m := 2) hN
  replace H1 := H1.alloc (.cells #[.slice G0 3 r0, .slice G1 2 r1] 25)
  replace hb := below_alloc hb (.cells #[.slice G0 3 r0, .slice G1 2 r1] 25)
  clear hN
  obtain ⟨x0, x1, x2, x3⟩ := H1.var.c
  obtain ⟨y0, y1, y2, y3⟩ := H10.var.c
  go_wp2_with fail
  -- Lose 0
  refine (retN 3 1 rfl rfl (c_lose H10.row 0 f_lose)).mono ?_
  rintro e w8 ⟨J0, s0, J1, s1, rfl, hN, hb2⟩
  replace H1 := H1.below hb2
  have V := H10.var.below hb2
  replace hb := below_step hb hb2
  clear x0 x1 x2 x3 y0 y1 y2 y3 hb2 H10
  obtain ⟨y0, y1, y2, y3⟩ := V.c
  replace H1 := H1.other V (Nat.ne_of_lt h110) (.slice J0 3 s0) (.slice J1 1 s1)
  have H10 := At.put (n' := 3) (m' := 1) V hN
  replace hb := below_set (j := 1) (v := .slice J1 1 s1) (below_set (j := 0) (v := .slice J0 3 s0) hb hB10) hB10
  clear hN
  obtain ⟨x0, x1, x2, x3⟩ := H1.var.c
  go_wp2_with fail
  -- Send to itself
  refine (retN 0 0 rfl rfl (c_send (A := none) (c := 0) H1.row 1 1 [] ⟨rfl, by simp, fun h => by simp at h⟩ (Nat.le_refl _) f_send1)).mono ?_
  rintro e w9 ⟨K0, t0, K1, t1, rfl, _, hb2⟩
  replace H1 := (H1.below hb2).alloc (.cells #[.slice K0 0 t0, .slice K1 0 t1] 25)
  replace H10 := (H10.below hb2).alloc (.cells #[.slice K0 0 t0, .slice K1 0 t1] 25)
  replace hb := below_alloc (below_step hb hb2) (.cells #[.slice K0 0 t0, .slice K1 0 t1] 25)
  clear x0 x1 x2 x3 y0 y1 y2 y3 hb2 V
  obtain ⟨x0, x1, x2, x3⟩ := H1.var.c
  go_wp2_with fail
  -- Send to a site that is not there
  refine (retN 0 0 rfl rfl (c_send (A := none) (c := 0) H1.row 1 3 [] ⟨rfl, by simp, fun h => by simp at h⟩ (Nat.le_refl _) f_send2)).mono ?_
  rintro e w10 ⟨L0, u0, L1, u1, rfl, _, hb2⟩
  replace H10 := (H10.below hb2).alloc (.cells #[.slice L0 0 u0, .slice L1 0 u1] 25)
  replace hb := below_alloc (below_step hb hb2) (.cells #[.slice L0 0 u0, .slice L1 0 u1] 25)
  clear x0 x1 x2 x3 hb2 H1
  go_wp2_with fail
  -- New(0)
  refine (retN 0 0 rfl rfl (c_new 0 f_new0)).mono ?_
  rintro e w11 ⟨M0, v0, M1, v1, rfl, _, hb2⟩
  replace H10 := (H10.below hb2).alloc (.cells #[.slice M0 0 v0, .slice M1 0 v1] 25)
  replace hb := below_alloc (below_step hb hb2) (.cells #[.slice M0 0 v0, .slice M1 0 v1] 25)
  clear hb2
  go_wp2_with fail
  -- New(17)
  refine (retN 0 0 rfl rfl (c_new 17 f_new17)).mono ?_
  rintro e w12 ⟨N0, z0, N1, z1, rfl, _, hb2⟩
  replace H10 := (H10.below hb2).alloc (.cells #[.slice N0 0 z0, .slice N1 0 z1] 25)
  replace hb := below_alloc (below_step hb hb2) (.cells #[.slice N0 0 z0, .slice N1 0 z1] 25)
  clear hb2
  obtain ⟨y0, y1, y2, y3⟩ := H10.var.c
  go_wp2
  go_ret
  exact ⟨rfl, hb⟩

/-- In the form of a printed function. -/
def skiarealaw58_alive.f : Option Bool := some true
theorem skiarealaw58_alive.calls (r : Bool) (w : World) (h : skiarealaw58_alive.f = some r) :
    Calls Try.prog 9 #[] w fun e w' => e = .returned (.bool r) ∧ Below w.heap.size w w' := by
  obtain rfl := Option.some.inj h
  exact alive_true w

end Go.Proofs.Ytlaheldjlfckkaa.A

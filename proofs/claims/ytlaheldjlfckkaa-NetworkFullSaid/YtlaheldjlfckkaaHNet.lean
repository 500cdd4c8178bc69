/- Networks in memory: what a variable of type api.Net holds, and what a call of the program's network functions leaves. -/
import Derived.Test.YtlaheldjlfckkaaAx0
import Derived.Lib.Hide
namespace Go.Proofs.Ytlaheldjlfckkaa.A
open Go.RowKit Go.Proofs.YtlaheldjlfckkaaW.PrintWords Go.Proofs.YtlaheldjlfckkaaW.PrintLast Go.Proofs.YtlaheldjlfckkaaW.PrintMore
set_option linter.unusedVariables false
set_option linter.unusedSimpArgs false

theorem sA {α : Type} (l : List α) (i : Nat) (v : α) : l.toArray.setIfInBounds i v = (l.set i v).toArray := by simp
theorem sZ {α : Type} (a b : α) (l : List α) : (a :: l).set 0 b = b :: l := rfl
theorem sS {α : Type} (a b : α) (l : List α) (n : Nat) : (a :: l).set (n + 1) b = a :: l.set n b := rfl
/-- The slices of a network that was made from block b on. -/
structure NR (w : World) (b : Nat) (A0 : Option Addr) (c0 : Nat) (P : List Int) (A1 : Option Addr) (c1 : Nat) (M : List S39) : Prop where
  parts : Kd.R (Kd.int .i64) 3 w b (fun _ => True) (.slice A0 P.length c0) P
  mail : Kd.R k39 39 w b (fun _ => True) (.slice A1 M.length c1) M

theorem NR.of {w : World} {b0 b b' : Nat} {ok ok' : Nat → Prop} {v0 v1 : Value} {P : List Int} {M : List S39} (h0 : Kd.R (Kd.int .i64) 3 w b ok v0 P) (h1 : Kd.R k39 39 w b' ok' v1 M) (hb : b0 ≤ b) (hb' : b0 ≤ b') :
    ∃ A0 c0 A1 c1, v0 = .slice A0 P.length c0 ∧ v1 = .slice A1 M.length c1 ∧ NR w b0 A0 c0 P A1 c1 M := by
  obtain ⟨A0, c0, rfl⟩ := Kd.R_slice h0
  obtain ⟨A1, c1, rfl⟩ := Kd.R_slice h1
  exact ⟨A0, c0, A1, c1, rfl, rfl, Kd.R_mono (Kd.R_lower h0 hb) (fun _ _ => trivial), Kd.R_mono (Kd.R_lower h1 hb') (fun _ _ => trivial)⟩
theorem NR.lower {w : World} {b b' : Nat} {A0 A1 : Option Addr} {c0 c1 : Nat} {P : List Int} {M : List S39} (h : NR w b A0 c0 P A1 c1 M) (hb : b' ≤ b) : NR w b' A0 c0 P A1 c1 M :=
  ⟨Kd.R_lower h.parts hb, Kd.R_lower h.mail hb⟩
theorem NR.below {w w' : World} {b : Nat} {A0 A1 : Option Addr} {c0 c1 : Nat} {P : List Int} {M : List S39} (h : NR w b A0 c0 P A1 c1 M) (hb : Below w.heap.size w w') : NR w' b A0 c0 P A1 c1 M :=
  ⟨Kd.R_below h.parts hb, Kd.R_below h.mail hb⟩
theorem k39_E : ∀ q, q ∈ 39 :: k39.E → q = 39 ∨ q = 5 := by
  intro q hq
  have e : k39.E = [5] := by rfl
  rw [e] at hq
  simp at hq
  exact hq
/-- A store into a block of another type. -/
theorem NR.set {w : World} {b : Nat} {A0 A1 : Option Addr} {c0 c1 : Nat} {P : List Int} {M : List S39} (h : NR w b A0 c0 P A1 c1 M) {g t : Nat} {cells : Array Value} (hb : w.heap[g]? = some (.cells cells t (0, 0))) (ht : t ≠ 3) (ht1 : t ≠ 39 ∧ t ≠ 5) (j : Nat) (u : Value) :
    NR (w.setCell ⟨g, j, none⟩ u) b A0 c0 P A1 c1 M :=
  ⟨Kd.R_set h.parts hb (fun q hq => by simp [Kd.int, Kd.scalar] at hq; omega) j u, Kd.R_set h.mail hb (fun q hq => by rcases k39_E q hq with rfl | rfl; exact fun e => ht1.1 e.symm; exact fun e => ht1.2 e.symm) j u⟩
theorem NR.p {w : World} {b : Nat} {A0 A1 : Option Addr} {c0 c1 : Nat} {P : List Int} {M : List S39} (h : NR w b A0 c0 P A1 c1 M) : Kd.C (Kd.int .i64) w A0 P.length P ∧ P.length ≤ c0 := by
  obtain ⟨A, c, e, hl, hC⟩ := Kd.R_reads h.parts
  injection e with e1 _ e3
  subst e1
  subst e3
  exact ⟨hC, hl⟩
theorem NR.m {w : World} {b : Nat} {A0 A1 : Option Addr} {c0 c1 : Nat} {P : List Int} {M : List S39} (h : NR w b A0 c0 P A1 c1 M) : Kd.C k39 w A1 M.length M ∧ M.length ≤ c1 := by
  obtain ⟨A, c, e, hl, hC⟩ := Kd.R_reads h.mail
  injection e with e1 _ e3
  subst e1
  subst e3
  exact ⟨hC, hl⟩
/-- Slices that read as a network. -/
structure NC (w : World) (A0 : Option Addr) (c0 : Nat) (P : List Int) (A1 : Option Addr) (c1 : Nat) (M : List S39) : Prop where
  p : Kd.C (Kd.int .i64) w A0 P.length P ∧ P.length ≤ c0
  m : Kd.C k39 w A1 M.length M ∧ M.length ≤ c1
theorem NC.below {w w' : World} {A0 A1 : Option Addr} {c0 c1 : Nat} {P : List Int} {M : List S39} (h : NC w A0 c0 P A1 c1 M) (hb : Below w.heap.size w w') : NC w' A0 c0 P A1 c1 M :=
  ⟨⟨Kd.C_below h.p.1 hb, h.p.2⟩, ⟨Kd.C_below h.m.1 hb, h.m.2⟩⟩
theorem NR.nc {w : World} {b : Nat} {A0 A1 : Option Addr} {c0 c1 : Nat} {P : List Int} {M : List S39} (h : NR w b A0 c0 P A1 c1 M) : NC w A0 c0 P A1 c1 M := ⟨h.p, h.m⟩
/-- A variable of type api.Net. -/
def NV (w : World) (B : Nat) (A0 : Option Addr) (c0 n0 : Nat) (A1 : Option Addr) (c1 n1 : Nat) : Prop := w.heap[B]? = some (.cells #[.slice A0 n0 c0, .slice A1 n1 c1] 25 (0, 0))
theorem NV.c {w : World} {B c0 n0 c1 n1 : Nat} {A0 A1 : Option Addr} (h : NV w B A0 c0 n0 A1 c1 n1) : w.cell? ⟨B, 0, none⟩ = some (.slice A0 n0 c0) ∧ w.cell? ⟨B, 1, none⟩ = some (.slice A1 n1 c1) ∧ w.frozen? ⟨B, 0, none⟩ = false ∧ w.frozen? ⟨B, 1, none⟩ = false :=
  ⟨(blk_cell h 0).trans rfl, (blk_cell h 1).trans rfl, blk_frozen h 0, blk_frozen h 1⟩
theorem NV.below {w w' : World} {B c0 n0 c1 n1 : Nat} {A0 A1 : Option Addr} (h : NV w B A0 c0 n0 A1 c1 n1) (hb : Below w.heap.size w w') : NV w' B A0 c0 n0 A1 c1 n1 := blk_below h hb
theorem NV.far {w : World} {B c0 n0 c1 n1 : Nat} {A0 A1 : Option Addr} (h : NV w B A0 c0 n0 A1 c1 n1) {p : Addr} (hp : B ≠ p.block) (u : Value) : NV (w.setCell p u) B A0 c0 n0 A1 c1 n1 := blk_far h hp u
theorem NV.new (w : World) (A0 : Option Addr) (c0 n0 : Nat) (A1 : Option Addr) (c1 n1 : Nat) : NV (w.alloc (.cells #[.slice A0 n0 c0, .slice A1 n1 c1] 25)) w.heap.size A0 c0 n0 A1 c1 n1 := blk_new _ _
theorem NV.put {w : World} {B c0 n0 c1 n1 d0 m0 d1 m1 : Nat} {A0 A1 B0 B1 : Option Addr} (h : NV w B A0 c0 n0 A1 c1 n1) : NV ((w.setCell ⟨B, 0, none⟩ (.slice B0 m0 d0)).setCell ⟨B, 1, none⟩ (.slice B1 m1 d1)) B B0 d0 m0 B1 d1 m1 := by
  have h1 := blk_set h 0 (.slice B0 m0 d0)
  have h2 := blk_set h1 1 (.slice B1 m1 d1)
  exact h2

end Go.Proofs.Ytlaheldjlfckkaa.A

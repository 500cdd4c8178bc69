/- BrakeExpires: how its second argument is opened; the law in the form of a printed function. -/
import Derived.Test.YtkkkfjbcefpjpaaHExpires
import Derived.Test.YtkkkfjbcefpjpaaHOpens
namespace Go.Proofs.Ytkkkfjbcefpjpaa.A
open Go.RowKit Go.Proofs.YtkkkfjbcefpjpaaW.PrintWords
open Go.ChangeShapes Go.WideShapes Go.Deep
set_option linter.unusedVariables false
set_option linter.unusedSimpArgs false

theorem Opens.struct4 {P : Program} {t : TypeId} {f0 f1 f2 f3 : Field} (hs : P.underlying t = some (.struct #[f0, f1, f2, f3])) (hone : oneCellFields P #[f0, f1, f2, f3] = true) (hC : P.cellsOf t = 4)
    {α β γ δ : Type} {a : Kd α} {b : Kd β} {c : Kd γ} {d : Kd δ} {F0 : α → Prop} {F1 : β → Prop} {F2 : γ → Prop} {F3 : δ → Prop}
    (h0 : Opens P f0.type a F0) (h1 : Opens P f1.type b F1) (h2 : Opens P f2.type c F2) (h3 : Opens P f3.type d F3) :
    Opens P t (Kd.pair a (Kd.pair b (Kd.pair c d))) (fun x => F0 x.1 ∧ F1 x.2.1 ∧ F2 x.2.2.1 ∧ F3 x.2.2.2) := by
  intro H enc w base spare held fuel cs x h
  obtain ⟨hl, n, hf⟩ := fields_one hs hone hC h
  match cs, hl with
  | [v0, v1, v2, v3], _ =>
    obtain ⟨_, y0⟩ := hf 0 f0 v0 rfl rfl
    obtain ⟨_, y1⟩ := hf 1 f1 v1 rfl rfl
    obtain ⟨_, y2⟩ := hf 2 f2 v2 rfl rfl
    obtain ⟨_, y3⟩ := hf 3 f3 v3 rfl rfl
    obtain ⟨x0, k0, g0⟩ := h0 _ _ _ _ _ _ _ _ _ y0
    obtain ⟨x1, k1, g1⟩ := h1 _ _ _ _ _ _ _ _ _ y1
    obtain ⟨x2, k2, g2⟩ := h2 _ _ _ _ _ _ _ _ _ y2
    obtain ⟨x3, k3, g3⟩ := h3 _ _ _ _ _ _ _ _ _ y3
    exact ⟨(x0, x1, x2, x3), ⟨_, _, rfl, k0, _, _, rfl, k1, _, _, rfl, k2, k3⟩, g0, g1, g2, g3⟩
def Wf (n : Int) : Prop := (Lit.int .i64 n).wf = true
theorem opens41 : Opens Try.prog 41 (Kd.pair (Kd.int .i64) (Kd.pair (Kd.int .i64) (Kd.pair (Kd.int .i64) (Kd.int .i64)))) (fun x => Wf x.1 ∧ Wf x.2.1 ∧ Wf x.2.2.1 ∧ Wf x.2.2.2) :=
  Opens.struct4 Try.underlying41 (by kernel_rfl) (by kernel_rfl) (Opens.int Try.underlying3) (Opens.int Try.underlying3) (Opens.int Try.underlying3) (Opens.int Try.underlying3)
def law15 (k : Nat) (later : Int) : Option Bool := if -9223372036854775808 ≤ later ∧ later ≤ 9223372036854775807 then some true else none
theorem PureBrakeExpires (l : List S32) (id m t later : Int) (hm : l.length ≤ maxLen) (hy : l.length * 40 ≤ 140737488351232) (hF : ∀ x ∈ l, IntsOk x) (hw : Wf id ∧ Wf m ∧ Wf t ∧ Wf later) : ∃ k, law15 k later = some true :=
  ⟨0, by unfold law15; exact if_pos (in64 hw.2.2.2)⟩
theorem skiarealaw15_BrakeExpires.calls (k : Nat) (A : Option Addr) (c : Nat) (l : List S32) (id m t later : Int) (r : Bool) (w : World) (hr : Kd.C k32 w A l.length l) (hc : l.length ≤ c) (h : law15 k later = some r) :
    Calls Try.prog 8 #[.slice A l.length c, .agg #[.int .i64 id, .int .i64 m, .int .i64 t, .int .i64 later]] w fun e w' => e = .returned (.bool r) ∧ Below w.heap.size w w' := by
  unfold law15 at h
  by_cases hl : -9223372036854775808 ≤ later ∧ later ≤ 9223372036854775807
  · rw [if_pos hl] at h
    obtain rfl := Option.some.inj h
    exact expires_calls A c l id m t later w hr hc hl
  · rw [if_neg hl] at h
    cases h

end Go.Proofs.Ytkkkfjbcefpjpaa.A

/- From what a row tells of an argument (it reads as a datum) to what the printed contracts ask of it (its cells, kind by kind): for whole numbers, slices, structs and arrays. -/
import Derived.Test.YtlaheldjlfckkaaAx0
import Derived.OpenShut
import Derived.ShutString
import Derived.ChangeOld
import Derived.SizedLaws
import Derived.Deep.Slices
import Derived.Deep.Fields
import Derived.ChangeSame
import Derived.ProofKit
namespace Go.Proofs.Ytlaheldjlfckkaa.A
open Go.RowKit Go.Proofs.YtlaheldjlfckkaaW.PrintWords Go.Proofs.YtlaheldjlfckkaaW.PrintLast Go.Proofs.YtlaheldjlfckkaaW.PrintMore
open Go.ChangeShapes Go.WideShapes Go.Deep
set_option linter.unusedVariables false
set_option linter.unusedSimpArgs false

/-- What reads as a datum of type t is a value of the kind d, of which F holds. -/
def Opens (P : Program) (t : TypeId) {α : Type} (d : Kd α) (F : α → Prop) : Prop :=
  ∀ (H : Type) (enc : TypeId × Value → H) (w : World) (base : Nat) (spare : Nat → Bool) (held : Bool) (fuel : Nat) (cs : List Value) (x : DataW H × List MemPlace),
    DataW.trod enc P w base spare held fuel t cs = some x → ∃ a, d.K w a cs ∧ F a

theorem Opens.int {P : Program} {t : TypeId} {k : IntKind} (hu : P.underlying t = some (.int k)) : Opens P t (Kd.int k) (fun n => (Lit.int k n).wf = true) := by
  intro H enc w base spare held fuel cs x h
  obtain ⟨n, rfl, _, hw⟩ := DataW.trod_int hu h
  exact ⟨n, rfl, hw⟩

theorem Opens.iso {P : Program} {t : TypeId} {α β : Type} {d : Kd α} {F : α → Prop} (h : Opens P t d F) (g : β → α) (g' : α → β) (hg : ∀ a, g (g' a) = a) : Opens P t (Kd.iso d g) (fun b => F (g b)) := by
  intro H enc w base spare held fuel cs x hx
  obtain ⟨a, h1, h2⟩ := h H enc w base spare held fuel cs x hx
  exact ⟨g' a, by show d.K w (g (g' a)) cs; rw [hg]; exact h1, by show F (g (g' a)); rw [hg]; exact h2⟩

theorem choose_list {α : Type} (P : Nat → α → Prop) (n : Nat) (h : ∀ i, i < n → ∃ a, P i a) : ∃ xs : List α, xs.length = n ∧ ∀ i a, xs[i]? = some a → P i a := by
  induction n with
  | zero => exact ⟨[], rfl, fun i a hi => by simp at hi⟩
  | succ n ih =>
    obtain ⟨xs, hl, hx⟩ := ih (fun i hi => h i (by omega))
    obtain ⟨a, ha⟩ := h n (by omega)
    refine ⟨xs ++ [a], by simp [hl], fun i b hb => ?_⟩
    rcases Nat.lt_or_ge i n with hi | hi
    · rw [List.getElem?_append_left (by omega)] at hb
      exact hx i b hb
    · rw [List.getElem?_append_right (by omega)] at hb
      rcases Nat.eq_zero_or_pos (i - xs.length) with h0 | h0
      · rw [h0] at hb
        cases hb
        obtain rfl : i = n := by omega
        exact ha
      · rw [List.getElem?_eq_none (by simp; omega)] at hb
        cases hb

/-- A slice's elements, read. -/
theorem Opens.row {P : Program} {t e : TypeId} {α : Type} {d : Kd α} {F : α → Prop} (hu : P.underlying t = some (.slice e)) (hc : P.cellsOf e = d.sz) (he : Opens P e d F)
    {H : Type} {enc : TypeId × Value → H} {w : World} {base : Nat} {spare : Nat → Bool} {held : Bool} {fuel : Nat} {cs : List Value} {x : DataW H × List MemPlace} (h : DataW.trod enc P w base spare held fuel t cs = some x) :
    ∃ (A : Option Addr) (c : Nat) (xs : List α), cs = [.slice A xs.length c] ∧ xs.length ≤ c ∧ xs.length ≤ maxLen ∧ d.C w A xs.length xs ∧ (∀ a ∈ xs, F a) ∧
      (xs = [] ∨ ∃ E R, x.1 = .slice E R ∧ E.length = xs.length) := by
  rcases open_slice hu h with ⟨rfl, rfl⟩ | ⟨a, len, cap, m, n, D, Pl, rfl, hb, hl, hm, hmm, rfl, hi⟩
  · exact ⟨none, 0, [], rfl, Nat.le_refl _, by simp, ⟨rfl, by simp, fun h => by simp at h⟩, by simp, .inl rfl⟩
  · have hml : len ≤ m := by rw [hmm]; split <;> omega
    have hone : ∀ i, i < len → ∃ p : α × List Value, (d.K w p.1 p.2 ∧ F p.1 ∧ ∀ j u, p.2[j]? = some u → w.cell? (a.add (i * d.sz + j)) = some u) := by
      intro i hil
      obtain ⟨cs', hcs, ht⟩ := hi i (by omega)
      obtain ⟨y, hk, hF⟩ := he H enc w base spare held n cs' _ ht
      obtain ⟨_, hcl, hat⟩ := World.cells?_some hcs
      refine ⟨(y, cs'), hk, hF, fun j u hj => ?_⟩
      have hjl : j < cs'.length := by
        rcases Nat.lt_or_ge j cs'.length with h | h
        · exact h
        · rw [List.getElem?_eq_none h] at hj; cases hj
      have h2 := hat j (by omega)
      rw [hc] at h2
      rw [← Go.Deep.add_add, h2, hj]
    obtain ⟨ps, hpl, hps⟩ := choose_list _ len hone
    have hlen : (ps.map (·.1)).length = len := by simp [hpl]
    refine ⟨some a, cap, ps.map (·.1), by rw [hlen], by rw [hlen]; exact hl, by rw [hlen]; omega, ?_, ?_, .inr ⟨_, _, rfl, by simp [hpl]⟩⟩
    · refine ⟨rfl, by rw [hlen]; unfold maxLen at hm; omega, fun _ => ⟨a, rfl, fun j p hp => ?_⟩⟩
      rw [List.getElem?_map] at hp
      obtain ⟨q, hq, rfl⟩ := Option.map_eq_some_iff.1 hp
      obtain ⟨h1, _, h3⟩ := hps j q hq
      exact ⟨q.2, d.K_len h1, h1, h3⟩
    · intro y hy
      rw [List.mem_map] at hy
      obtain ⟨q, hq, rfl⟩ := hy
      obtain ⟨j, hj⟩ := List.getElem?_of_mem hq
      exact (hps j q hj).2.1

theorem Opens.slice {P : Program} {t e : TypeId} {α : Type} {d : Kd α} {F : α → Prop} (hu : P.underlying t = some (.slice e)) (hc : P.cellsOf e = d.sz) (he : Opens P e d F) :
    Opens P t (Kd.slice e d) (fun xs => xs.length ≤ maxLen ∧ ∀ a ∈ xs, F a) := by
  intro H enc w base spare held fuel cs x h
  obtain ⟨A, c, xs, rfl, hl, hm, hC, hF, _⟩ := Opens.row hu hc he h
  exact ⟨xs, ⟨A, c, rfl, hl, hC⟩, hm, hF⟩

/-- Structs whose fields have one cell each: the fields' list is told one by one. -/
theorem fields_one {P : Program} {t : TypeId} {fs : Array Field} (hs : P.underlying t = some (.struct fs)) (hone : oneCellFields P fs = true) (hC : P.cellsOf t = fs.size)
    {H : Type} {enc : TypeId × Value → H} {w : World} {base : Nat} {spare : Nat → Bool} {held : Bool} {fuel : Nat} {cs : List Value} {x : DataW H × List MemPlace} (h : DataW.trod enc P w base spare held fuel t cs = some x) :
    cs.length = fs.size ∧ ∃ n, ∀ (i : Nat) (f : Field) (v : Value), fs[i]? = some f → cs[i]? = some v → ∃ y, DataW.trod enc P w base spare held n f.type [v] = some y := by
  obtain ⟨ys, n, _, _, hlen, hyl, hf⟩ := DataW.trod_struct hs h
  refine ⟨hlen.trans hC, n, fun i f v hi hv => ?_⟩
  obtain ⟨ho, hk⟩ := hone_of hone i f hi
  have h1 := hf i f hi
  rw [ho, hk] at h1
  have hil : i < cs.length := by
    rcases Nat.lt_or_ge i cs.length with h | h
    · exact h
    · rw [List.getElem?_eq_none h] at hv; cases hv
  rw [List.getElem?_eq_getElem hil] at hv
  cases hv
  have hone' : (cs.drop i).take 1 = [cs[i]] := by rw [List.drop_eq_getElem_cons hil]; rfl
  rw [hone'] at h1
  have hiy : i < ys.length := by
    have : i < fs.size := (Array.getElem?_eq_some_iff.1 hi).1
    omega
  exact ⟨_, h1.trans (List.getElem?_eq_getElem hiy)⟩

theorem Opens.struct2 {P : Program} {t : TypeId} {f0 f1 : Field} (hs : P.underlying t = some (.struct #[f0, f1])) (hone : oneCellFields P #[f0, f1] = true) (hC : P.cellsOf t = 2)
    {α β : Type} {a : Kd α} {b : Kd β} {F0 : α → Prop} {F1 : β → Prop} (h0 : Opens P f0.type a F0) (h1 : Opens P f1.type b F1) : Opens P t (Kd.pair a b) (fun x => F0 x.1 ∧ F1 x.2) := by
  intro H enc w base spare held fuel cs x h
  obtain ⟨hl, n, hf⟩ := fields_one hs hone hC h
  match cs, hl with
  | [v0, v1], _ =>
    obtain ⟨_, y0⟩ := hf 0 f0 v0 rfl rfl
    obtain ⟨_, y1⟩ := hf 1 f1 v1 rfl rfl
    obtain ⟨x0, k0, g0⟩ := h0 _ _ _ _ _ _ _ _ _ y0
    obtain ⟨x1, k1, g1⟩ := h1 _ _ _ _ _ _ _ _ _ y1
    exact ⟨(x0, x1), ⟨_, _, rfl, k0, k1⟩, g0, g1⟩

theorem Opens.struct3 {P : Program} {t : TypeId} {f0 f1 f2 : Field} (hs : P.underlying t = some (.struct #[f0, f1, f2])) (hone : oneCellFields P #[f0, f1, f2] = true) (hC : P.cellsOf t = 3)
    {α β γ : Type} {a : Kd α} {b : Kd β} {c : Kd γ} {F0 : α → Prop} {F1 : β → Prop} {F2 : γ → Prop} (h0 : Opens P f0.type a F0) (h1 : Opens P f1.type b F1) (h2 : Opens P f2.type c F2) :
    Opens P t (Kd.pair a (Kd.pair b c)) (fun x => F0 x.1 ∧ F1 x.2.1 ∧ F2 x.2.2) := by
  intro H enc w base spare held fuel cs x h
  obtain ⟨hl, n, hf⟩ := fields_one hs hone hC h
  match cs, hl with
  | [v0, v1, v2], _ =>
    obtain ⟨_, y0⟩ := hf 0 f0 v0 rfl rfl
    obtain ⟨_, y1⟩ := hf 1 f1 v1 rfl rfl
    obtain ⟨_, y2⟩ := hf 2 f2 v2 rfl rfl
    obtain ⟨x0, k0, g0⟩ := h0 _ _ _ _ _ _ _ _ _ y0
    obtain ⟨x1, k1, g1⟩ := h1 _ _ _ _ _ _ _ _ _ y1
    obtain ⟨x2, k2, g2⟩ := h2 _ _ _ _ _ _ _ _ _ y2
    exact ⟨(x0, x1, x2), ⟨_, _, rfl, k0, _, _, rfl, k1, k2⟩, g0, g1, g2⟩

theorem Opens.struct5 {P : Program} {t : TypeId} {f0 f1 f2 f3 f4 : Field} (hs : P.underlying t = some (.struct #[f0, f1, f2, f3, f4])) (hone : oneCellFields P #[f0, f1, f2, f3, f4] = true) (hC : P.cellsOf t = 5)
    {α β γ δ ε : Type} {a : Kd α} {b : Kd β} {c : Kd γ} {d : Kd δ} {e : Kd ε} {F0 : α → Prop} {F1 : β → Prop} {F2 : γ → Prop} {F3 : δ → Prop} {F4 : ε → Prop}
    (h0 : Opens P f0.type a F0) (h1 : Opens P f1.type b F1) (h2 : Opens P f2.type c F2) (h3 : Opens P f3.type d F3) (h4 : Opens P f4.type e F4) :
    Opens P t (Kd.pair a (Kd.pair b (Kd.pair c (Kd.pair d e)))) (fun x => F0 x.1 ∧ F1 x.2.1 ∧ F2 x.2.2.1 ∧ F3 x.2.2.2.1 ∧ F4 x.2.2.2.2) := by
  intro H enc w base spare held fuel cs x h
  obtain ⟨hl, n, hf⟩ := fields_one hs hone hC h
  match cs, hl with
  | [v0, v1, v2, v3, v4], _ =>
    obtain ⟨_, y0⟩ := hf 0 f0 v0 rfl rfl
    obtain ⟨_, y1⟩ := hf 1 f1 v1 rfl rfl
    obtain ⟨_, y2⟩ := hf 2 f2 v2 rfl rfl
    obtain ⟨_, y3⟩ := hf 3 f3 v3 rfl rfl
    obtain ⟨_, y4⟩ := hf 4 f4 v4 rfl rfl
    obtain ⟨x0, k0, g0⟩ := h0 _ _ _ _ _ _ _ _ _ y0
    obtain ⟨x1, k1, g1⟩ := h1 _ _ _ _ _ _ _ _ _ y1
    obtain ⟨x2, k2, g2⟩ := h2 _ _ _ _ _ _ _ _ _ y2
    obtain ⟨x3, k3, g3⟩ := h3 _ _ _ _ _ _ _ _ _ y3
    obtain ⟨x4, k4, g4⟩ := h4 _ _ _ _ _ _ _ _ _ y4
    exact ⟨(x0, x1, x2, x3, x4), ⟨_, _, rfl, k0, _, _, rfl, k1, _, _, rfl, k2, _, _, rfl, k3, k4⟩, g0, g1, g2, g3, g4⟩

theorem Opens.array2 {P : Program} {t e : TypeId} {k : IntKind} (hu : P.underlying t = some (.array 2 e)) (he : P.underlying e = some (.int k)) (hc : P.cellsOf e = 1) (hC : P.cellsOf t = 2) :
    Opens P t (Kd.pair (Kd.int k) (Kd.int k)) (fun x => (Lit.int k x.1).wf = true ∧ (Lit.int k x.2).wf = true) := by
  intro H enc w base spare held fuel cs x h
  obtain ⟨xs, m, _, _, hl, hxl, hf⟩ := DataW.trod_array hu h
  rw [hC] at hl
  match cs, hl, xs, hxl with
  | [v0, v1], _, [y0, y1], _ =>
    have h0 := hf 0 (by omega)
    have h1 := hf 1 (by omega)
    simp [hc] at h0 h1
    obtain ⟨n0, e0, _, w0⟩ := DataW.trod_int he h0
    obtain ⟨n1, e1, _, w1⟩ := DataW.trod_int he h1
    cases e0
    cases e1
    exact ⟨(n0, n1), ⟨_, _, rfl, rfl, rfl⟩, w0, w1⟩

theorem Opens.array3 {P : Program} {t e : TypeId} {k : IntKind} (hu : P.underlying t = some (.array 3 e)) (he : P.underlying e = some (.int k)) (hc : P.cellsOf e = 1) (hC : P.cellsOf t = 3) :
    Opens P t (Kd.pair (Kd.int k) (Kd.pair (Kd.int k) (Kd.int k))) (fun x => (Lit.int k x.1).wf = true ∧ (Lit.int k x.2.1).wf = true ∧ (Lit.int k x.2.2).wf = true) := by
  intro H enc w base spare held fuel cs x h
  obtain ⟨xs, m, _, _, hl, hxl, hf⟩ := DataW.trod_array hu h
  rw [hC] at hl
  match cs, hl, xs, hxl with
  | [v0, v1, v2], _, [y0, y1, y2], _ =>
    have h0 := hf 0 (by omega)
    have h1 := hf 1 (by omega)
    have h2 := hf 2 (by omega)
    simp [hc] at h0 h1 h2
    obtain ⟨n0, e0, _, w0⟩ := DataW.trod_int he h0
    obtain ⟨n1, e1, _, w1⟩ := DataW.trod_int he h1
    obtain ⟨n2, e2, _, w2⟩ := DataW.trod_int he h2
    cases e0
    cases e1
    cases e2
    exact ⟨(n0, n1, n2), ⟨_, _, rfl, rfl, _, _, rfl, rfl, rfl⟩, w0, w1, w2⟩

/-- A value that is an array: its cells. -/
theorem okWide_array {P : Program} {w : World} {r : Reach} {base : Nat} {t e : TypeId} {n : Nat} {v : Value} (ht : P.underlying t = some (.array n e)) (h : Value.okWide P w r base t v) : ∃ cs, v = .agg cs ∧ cs.size = P.cellsOf t := by
  simp only [Value.okWide, ht] at h
  obtain ⟨cs, h1, h2, _⟩ := h
  exact ⟨cs, h1, h2⟩

end Go.Proofs.Ytlaheldjlfckkaa.A

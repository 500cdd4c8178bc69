/- ChooseChecks, ChooseNeeds, ChooseFits over numbers and lists. -/
import Derived.Test.YtjblknlmjklkgaaHOpens
import Derived.Test.YtjblknlmjklkgaaHFuncs
namespace Go.Proofs.Ytjblknlmjklkgaa.A
open Go.RowKit Go.Proofs.YtjblknlmjklkgaaW.PrintWords
set_option linter.unusedVariables false
set_option linter.unusedSimpArgs false

def IntsOk (x : S42) : Prop := (Lit.int .i64 x.f0).wf = true ∧ (Lit.int .i64 x.f1).wf = true ∧ (Lit.int .i64 x.f2).wf = true
theorem opens42 : Opens Try.prog 42 k42 IntsOk :=
  Opens.iso (Opens.struct3 Try.underlying42 (by kernel_rfl) (by kernel_rfl) (Opens.int Try.underlying3) (Opens.int Try.underlying3) (Opens.int Try.underlying3)) _ (fun x => ⟨x.1, x.2.1, x.2.2⟩) (fun _ => rfl)
theorem opens3 : Opens Try.prog 3 (Kd.int .i64) (fun n => (Lit.int .i64 n).wf = true) := Opens.int Try.underlying3
theorem in64 {a : Int} (h : (Lit.int .i64 a).wf = true) : In64 a := by
  have := bounds_i64 h
  unfold In64
  omega

theorem PureChooseChecks (l : List S42) (hm : l.length ≤ maxLen) (hy : l.length * 24 ≤ 140737488351232) (hF : ∀ x ∈ l, IntsOk x) : ∃ k, skiarealaw07_ChooseChecks.f k l = some true := by
  refine ⟨100, ?_⟩
  unfold skiarealaw07_ChooseChecks.f skiarealaw07_alive.f
  simp only [Option.bind_some, if_true]
  by_cases h : (l.length : Int) > 30
  · rw [if_pos h]
  · rw [if_neg h, right_f l 100 (by omega), refright_f l 100 (by omega)]
    simp

theorem PureChooseNeeds (l : List S42) (cs : List Int) (hm : l.length ≤ maxLen) (hy : l.length * 24 ≤ 140737488351232) (hF : ∀ x ∈ l, IntsOk x)
    (hm1 : cs.length ≤ maxLen) (hy1 : cs.length * 8 ≤ 140737488351232) (hF1 : ∀ x ∈ cs, (Lit.int .i64 x).wf = true) : ∃ k, skiarealaw07_ChooseNeeds.f k l cs = some true := by
  refine ⟨100, ?_⟩
  unfold skiarealaw07_ChooseNeeds.f skiarealaw07_alive.f
  simp only [Option.bind_some, if_true]
  rw [refright_f l 100 (by omega)]
  simp only [Option.bind_some]
  by_cases h : rightP l = 0
  · rw [if_pos h]
    simp only [skiarealaw07_ChooseNeeds.j0]
    by_cases hc : (cs.length : Int) > 40
    · rw [if_pos (by simpa using hc)]
    · rw [if_neg (by simpa using hc), need_f (items_of' h) cs (by omega) 99 (by omega), refneed_f (items_of' h) cs (by omega) 99 (by omega)]
      simp
  · rw [if_neg h]
    simp only [skiarealaw07_ChooseNeeds.j0, if_true]

theorem PureChooseFits (l : List S42) (cs : List Int) (a b : Int) (hm : l.length ≤ maxLen) (hy : l.length * 24 ≤ 140737488351232) (hF : ∀ x ∈ l, IntsOk x)
    (hm1 : cs.length ≤ maxLen) (hy1 : cs.length * 8 ≤ 140737488351232) (hF1 : ∀ x ∈ cs, (Lit.int .i64 x).wf = true) (w2 : (Lit.int .i64 a).wf = true) (w3 : (Lit.int .i64 b).wf = true) :
    ∃ k, skiarealaw07_ChooseFits.f k l cs a b = some true := by
  refine ⟨100, ?_⟩
  unfold skiarealaw07_ChooseFits.f skiarealaw07_alive.f
  simp only [Option.bind_some, if_true]
  rw [refright_f l 100 (by omega)]
  simp only [Option.bind_some]
  by_cases h : rightP l = 0
  · rw [if_pos h]
    simp only [skiarealaw07_ChooseFits.j0]
    by_cases hc : (cs.length : Int) > 40
    · rw [if_pos (by simpa using hc)]
    · rw [if_neg (by simpa using hc), fits_f (items_of' h) cs a b (by omega) 99 (by omega), reffits_f (items_of' h) cs a b (by omega) 99 (by omega)]
      simp
  · rw [if_neg h]
    simp only [skiarealaw07_ChooseFits.j0, if_true]

end Go.Proofs.Ytjblknlmjklkgaa.A

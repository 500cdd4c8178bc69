/- NetworkChecks over numbers and lists; how a row's arguments are opened. -/
import Derived.Test.YtlaheldjlfckkaaHOpens
import Derived.Test.YtlaheldjlfckkaaHTheory
import Derived.Test.YtlaheldjlfckkaaAx12
namespace Go.Proofs.Ytlaheldjlfckkaa.A
open Go.RowKit Go.Proofs.YtlaheldjlfckkaaW.PrintWords
set_option linter.unusedVariables false
set_option linter.unusedSimpArgs false

def Wf (n : Int) : Prop := (Lit.int .i64 n).wf = true
def ListOk (F : Int → Prop) (l : List Int) : Prop := l.length ≤ maxLen ∧ ∀ x ∈ l, F x
def MsgOk (x : S39) : Prop := Wf x.f0 ∧ Wf x.f1 ∧ ListOk (fun n => (Lit.int .u8 n).wf = true) x.f2
def OpOk (x : S43) : Prop := Wf x.f0 ∧ Wf x.f1 ∧ Wf x.f2 ∧ ListOk (fun n => (Lit.int .u8 n).wf = true) x.f3 ∧ ListOk Wf x.f4
theorem opens37 : Opens Try.prog 37 (Kd.slice 5 (Kd.int .u8)) (ListOk fun n => (Lit.int .u8 n).wf = true) := Opens.slice Try.underlying37 (by kernel_rfl) (Opens.int Try.underlying5)
theorem opens22 : Opens Try.prog 22 (Kd.slice 3 (Kd.int .i64)) (ListOk Wf) := Opens.slice Try.underlying22 (by kernel_rfl) (Opens.int Try.underlying3)
theorem opens39 : Opens Try.prog 39 k39 MsgOk :=
  Opens.iso (Opens.struct3 Try.underlying39 (by kernel_rfl) (by kernel_rfl) (Opens.int Try.underlying3) (Opens.int Try.underlying3) opens37) _ (fun x => ⟨x.1, x.2.1, x.2.2⟩) (fun _ => rfl)
theorem opens43 : Opens Try.prog 43 k43 OpOk :=
  Opens.iso (Opens.struct5 Try.underlying43 (by kernel_rfl) (by kernel_rfl) (Opens.int Try.underlying3) (Opens.int Try.underlying3) (Opens.int Try.underlying3) opens37 opens22) _ (fun x => ⟨x.1, x.2.1, x.2.2.1, x.2.2.2.1, x.2.2.2.2⟩) (fun _ => rfl)
theorem opens25 : Opens Try.prog 25 (Kd.pair (Kd.slice 3 (Kd.int .i64)) (Kd.slice 39 k39)) (fun x => ListOk Wf x.1 ∧ (x.2.length ≤ maxLen ∧ ∀ m ∈ x.2, MsgOk m)) :=
  Opens.struct2 Try.underlying25 (by kernel_rfl) (by kernel_rfl) opens22 (Opens.slice Try.underlying23 (by kernel_rfl) opens39)

theorem PureNetworkChecks (sites : Int) (P : List Int) (M : List S39) (w0 : (Lit.int .i64 sites).wf = true) (hF : ListOk Wf P ∧ (M.length ≤ maxLen ∧ ∀ m ∈ M, MsgOk m)) : ∃ k, skiarealaw58_NetworkChecks.f k sites P M = some true := by
  refine ⟨3001, ?_⟩
  unfold skiarealaw58_NetworkChecks.f skiarealaw58_alive.f
  simp only [Option.bind_some, if_true]
  have skip_ : skiarealaw58_NetworkChecks.j0 3001 sites true P M = some true := by simp [skiarealaw58_NetworkChecks.j0]
  by_cases h1 : (P.length : Int) > 300
  · rw [if_pos h1]; exact skip_
  · rw [if_neg h1]
    by_cases h2 : (M.length : Int) > 300
    · rw [show decide ((M.length : Int) > 300) = true by simpa using h2]; exact skip_
    · rw [show decide ((M.length : Int) > 300) = false by simpa using h2]
      simp only [skiarealaw58_NetworkChecks.j0, Bool.false_eq_true, if_false]
      rw [new_f, refnew_f]
      simp only [Option.bind_some, if_true]
      have hn : (newP sites).1.length ≤ 1000 ∧ (newP sites).2.1.length ≤ 1000 := by
        unfold newP
        split
        · simp
        · simp; omega
      rw [same_f _ _ hn.1 hn.2 3000 (by omega)]
      simp only [Option.bind_some, if_true]
      rw [right_f P M 3000 (by omega), refright_f P M 3000 (by omega)]
      simp

end Go.Proofs.Ytlaheldjlfckkaa.A

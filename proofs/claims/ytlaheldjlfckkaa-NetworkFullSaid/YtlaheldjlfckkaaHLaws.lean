/- How a row's arguments are opened (layer 58). -/
import Derived.Test.YtlaheldjlfckkaaHOpens
namespace Go.Proofs.Ytlaheldjlfckkaa.A
open Go.RowKit Go.Proofs.YtlaheldjlfckkaaW.PrintWords
set_option linter.unusedVariables false
set_option linter.unusedSimpArgs false

def Wf (n : Int) : Prop := (Lit.int .i64 n).wf = true
def ListOk (F : Int → Prop) (l : List Int) : Prop := l.length ≤ maxLen ∧ ∀ x ∈ l, F x
def MsgOk (x : S39) : Prop := Wf x.f0 ∧ Wf x.f1 ∧ ListOk (fun n => (Lit.int .u8 n).wf = true) x.f2
def OpOk (x : S43) : Prop := Wf x.f0 ∧ Wf x.f1 ∧ Wf x.f2 ∧ ListOk (fun n => (Lit.int .u8 n).wf = true) x.f3 ∧ ListOk Wf x.f4
theorem opens37 : Opens Try.prog 37 (Kd.slice 5 (Kd.int .u8)) (ListOk fun n => (Lit.int .u8 n).wf = true) := Opens.slice Try.underlying37 (by kernel_rfl) (Opens.int Try.underlying5)
theorem opens22 : Opens Try.prog 22 (Kd.slice 3 (Kd.int .i64)) (ListOk Wf) := Opens.slice Try.underlying22 (by kernel_rfl) (Opens.int Try.underlying3)
theorem opens39 : Opens Try.prog 39 k39 MsgOk :=
  Opens.iso (Opens.struct3 Try.underlying39 (by kernel_rfl) (by kernel_rfl) (Opens.int Try.underlying3) (Opens.int Try.underlying3) opens37) _ (fun x => ⟨x.1, x.2.1, x.2.2⟩) (fun _ => rfl)
theorem opens43 : Opens Try.prog 43 k43 OpOk :=
  Opens.iso (Opens.struct5 Try.underlying43 (by kernel_rfl) (by kernel_rfl) (Opens.int Try.underlying3) (Opens.int Try.underlying3) (Opens.int Try.underlying3) opens37 opens22) _ (fun x => ⟨x.1, x.2.1, x.2.2.1, x.2.2.2.1, x.2.2.2.2⟩) (fun _ => rfl)
theorem opens25 : Opens Try.prog 25 (Kd.pair (Kd.slice 3 (Kd.int .i64)) (Kd.slice 39 k39)) (fun x => ListOk Wf x.1 ∧ (x.2.length ≤ maxLen ∧ ∀ m ∈ x.2, MsgOk m)) :=
  Opens.struct2 Try.underlying25 (by kernel_rfl) (by kernel_rfl) opens22 (Opens.slice Try.underlying23 (by kernel_rfl) opens39)

end Go.Proofs.Ytlaheldjlfckkaa.A

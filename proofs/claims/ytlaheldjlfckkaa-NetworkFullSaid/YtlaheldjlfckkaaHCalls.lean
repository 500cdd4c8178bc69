/- The contracts of the program's network functions, in one form: a network that was made goes in, a new one comes out. -/
import Derived.Test.YtlaheldjlfckkaaHNet
import Derived.Test.YtlaheldjlfckkaaAx1
import Derived.Test.YtlaheldjlfckkaaAx2
import Derived.Test.YtlaheldjlfckkaaAx3
import Derived.Test.YtlaheldjlfckkaaAx4
import Derived.Test.YtlaheldjlfckkaaAx5
import Derived.Test.YtlaheldjlfckkaaAx6
namespace Go.Proofs.Ytlaheldjlfckkaa.A
open Go.RowKit Go.Proofs.YtlaheldjlfckkaaW.PrintWords Go.Proofs.YtlaheldjlfckkaaW.PrintLast Go.Proofs.YtlaheldjlfckkaaW.PrintMore
set_option linter.unusedVariables false
set_option linter.unusedSimpArgs false

/-- A network and an error come back. -/
def RetNet (w : World) (P : List Int) (M : List S39) (r : Int) (e : Ending) (w' : World) : Prop :=
  ∃ A0 c0 A1 c1, e = .returned (.tuple #[.agg #[.slice A0 P.length c0, .slice A1 M.length c1], .int .i64 r]) ∧ NR w' w.heap.size A0 c0 P A1 c1 M ∧ Below w.heap.size w w'
/-- A network, a message and an error come back. -/
def RetMsg (w : World) (P : List Int) (M : List S39) (f t : Int) (body : List Int) (r : Int) (e : Ending) (w' : World) : Prop :=
  ∃ A0 c0 A1 c1 A2 c2, e = .returned (.tuple #[.agg #[.slice A0 P.length c0, .slice A1 M.length c1], .agg #[.int .i64 f, .int .i64 t, .slice A2 body.length c2], .int .i64 r]) ∧ NR w' w.heap.size A0 c0 P A1 c1 M ∧
    Kd.R (Kd.int .u8) 5 w' w.heap.size (fun _ => True) (.slice A2 body.length c2) body ∧ Below w.heap.size w w'

theorem ret_net {w w' : World} {P : List Int} {M : List S39} {r : Int} {e : Ending} {ok ok' : Nat → Prop}
    (h : ∃ v0_ v1_ : Value, e = .returned (.tuple #[.agg #[v0_, v1_], .int .i64 r]) ∧ Kd.R (Kd.int .i64) 3 w' w.heap.size ok v0_ P ∧ Kd.S k39 39 w' w.heap.size ok' v1_ M ∧ Below w.heap.size w w') : RetNet w P M r e w' := by
  obtain ⟨v0, v1, rfl, h0, h1, hb⟩ := h
  obtain ⟨A0, c0, A1, c1, rfl, rfl, hN⟩ := NR.of h0 (Kd.S_R h1) (Nat.le_refl _) (Nat.le_refl _)
  exact ⟨A0, c0, A1, c1, rfl, hN, hb⟩

section
variable {k : Nat} {w : World} {b : Nat} {A0 A1 A : Option Addr} {c0 c1 c : Nat} {P P' : List Int} {M M' : List S39} {e : Int}
theorem c_new (sites : Int) (h : network_New.f sites = some (P', M', e)) : Calls Try.prog 10 #[.int .i64 sites] w (RetNet w P' M' e) :=
  (network_New.calls sites P' M' e w h).mono fun _ _ h => ret_net h
theorem c_sendC (HN : NC w A0 c0 P A1 c1 M) (f t : Int) (body : List Int) (hr : Kd.C (Kd.int .u8) w A body.length body) (hc : body.length ≤ c) (h : network_Send.f k P M f t body = some (P', M', e)) :
    Calls Try.prog 23 #[.agg #[.slice A0 P.length c0, .slice A1 M.length c1], .int .i64 f, .int .i64 t, .slice A body.length c] w (RetNet w P' M' e) :=
  (network_Send.calls k A0 c0 P A1 c1 M f t A c body P' M' e w HN.p.1 HN.p.2 HN.m.1 HN.m.2 hr hc h).mono fun _ _ h => ret_net h
theorem c_splitC (HN : NC w A0 c0 P A1 c1 M) (l : List Int) (hr : Kd.C (Kd.int .i64) w A l.length l) (hc : l.length ≤ c) (h : network_Split.f k P M l = some (P', M', e)) :
    Calls Try.prog 24 #[.agg #[.slice A0 P.length c0, .slice A1 M.length c1], .slice A l.length c] w (RetNet w P' M' e) :=
  (network_Split.calls k A0 c0 P A1 c1 M A c l P' M' e w HN.p.1 HN.p.2 HN.m.1 HN.m.2 hr hc h).mono fun _ _ h => ret_net h
theorem c_copyC (HN : NC w A0 c0 P A1 c1 M) (i : Int) (h : network_Copy.f k P M i = some (P', M', e)) :
    Calls Try.prog 25 #[.agg #[.slice A0 P.length c0, .slice A1 M.length c1], .int .i64 i] w (RetNet w P' M' e) :=
  (network_Copy.calls k A0 c0 P A1 c1 M i P' M' e w HN.p.1 HN.p.2 HN.m.1 HN.m.2 h).mono fun _ _ h => ret_net h
theorem c_loseC (HN : NC w A0 c0 P A1 c1 M) (i : Int) (h : network_Lose.f k P M i = some (P', M', e)) :
    Calls Try.prog 26 #[.agg #[.slice A0 P.length c0, .slice A1 M.length c1], .int .i64 i] w (RetNet w P' M' e) :=
  (network_Lose.calls k A0 c0 P A1 c1 M i P' M' e w HN.p.1 HN.p.2 HN.m.1 HN.m.2 h).mono fun _ _ h => ret_net h
theorem c_deliverC (HN : NC w A0 c0 P A1 c1 M) (i : Int) {f t : Int} {body : List Int} (h : network_Deliver.f k P M i = some (P', M', f, t, body, e)) :
    Calls Try.prog 21 #[.agg #[.slice A0 P.length c0, .slice A1 M.length c1], .int .i64 i] w (RetMsg w P' M' f t body e) := by
  refine (network_Deliver.calls k A0 c0 P A1 c1 M i P' M' f t body e w HN.p.1 HN.p.2 HN.m.1 HN.m.2 h).mono ?_
  rintro e w' ⟨v0, v1, v4, rfl, h0, h1, h4, hb⟩
  obtain ⟨A0, c0, A1, c1, rfl, rfl, hN⟩ := NR.of h0 (Kd.S_R h1) (Nat.le_refl _) (Nat.le_refl _)
  obtain ⟨A2, c2, rfl⟩ := Kd.R_slice h4
  exact ⟨A0, c0, A1, c1, A2, c2, rfl, hN, h4, hb⟩
theorem c_send (HN : NR w b A0 c0 P A1 c1 M) (f t : Int) (body : List Int) (hr : Kd.C (Kd.int .u8) w A body.length body) (hc : body.length ≤ c) (h : network_Send.f k P M f t body = some (P', M', e)) :
    Calls Try.prog 23 #[.agg #[.slice A0 P.length c0, .slice A1 M.length c1], .int .i64 f, .int .i64 t, .slice A body.length c] w (RetNet w P' M' e) := c_sendC HN.nc f t body hr hc h
theorem c_split (HN : NR w b A0 c0 P A1 c1 M) (l : List Int) (hr : Kd.C (Kd.int .i64) w A l.length l) (hc : l.length ≤ c) (h : network_Split.f k P M l = some (P', M', e)) :
    Calls Try.prog 24 #[.agg #[.slice A0 P.length c0, .slice A1 M.length c1], .slice A l.length c] w (RetNet w P' M' e) := c_splitC HN.nc l hr hc h
theorem c_copy (HN : NR w b A0 c0 P A1 c1 M) (i : Int) (h : network_Copy.f k P M i = some (P', M', e)) :
    Calls Try.prog 25 #[.agg #[.slice A0 P.length c0, .slice A1 M.length c1], .int .i64 i] w (RetNet w P' M' e) := c_copyC HN.nc i h
theorem c_lose (HN : NR w b A0 c0 P A1 c1 M) (i : Int) (h : network_Lose.f k P M i = some (P', M', e)) :
    Calls Try.prog 26 #[.agg #[.slice A0 P.length c0, .slice A1 M.length c1], .int .i64 i] w (RetNet w P' M' e) := c_loseC HN.nc i h
theorem c_deliver (HN : NR w b A0 c0 P A1 c1 M) (i : Int) {f t : Int} {body : List Int} (h : network_Deliver.f k P M i = some (P', M', f, t, body, e)) :
    Calls Try.prog 21 #[.agg #[.slice A0 P.length c0, .slice A1 M.length c1], .int .i64 i] w (RetMsg w P' M' f t body e) := c_deliverC HN.nc i h
end

end Go.Proofs.Ytlaheldjlfckkaa.A

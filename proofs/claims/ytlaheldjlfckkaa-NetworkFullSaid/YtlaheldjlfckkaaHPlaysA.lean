/- NetworkPlays over numbers and lists; what the reference's step leaves in memory. -/
import Derived.Test.YtlaheldjlfckkaaHInv
import Derived.Test.YtlaheldjlfckkaaHExp
namespace Go.Proofs.Ytlaheldjlfckkaa.A
open Go.RowKit Go.Proofs.YtlaheldjlfckkaaW.PrintWords
set_option linter.unusedVariables false
set_option linter.unusedSimpArgs false

theorem done_err {P : List Int} {M : List S39} {o : S43} (he : (doneP P M o).2.2.2.2.2 ≠ 0) : (doneP P M o).1 = [] ∧ (doneP P M o).2.1 = [] := by
  unfold doneP sendP deliverP loseP copyP splitP lift3 at *
  repeat' split
  all_goals (first | exact ⟨rfl, rfl⟩ | (exfalso; simp_all))
theorem done_len {n : Int} {P : List Int} {M : List S39} (h : Inv n P M) (o : S43) : (doneP P M o).1.length ≤ 1000 ∧ (doneP P M o).2.1.length ≤ 1000 := by
  by_cases he : (doneP P M o).2.2.2.2.2 = 0
  · have hI := done_inv h o he
    have h1 := hI.len
    have h2 := hI.hi
    have h3 := hI.mail
    exact ⟨by omega, by omega⟩
  · have h1 := done_err he
    rw [h1.1, h1.2]
    exact ⟨Nat.zero_le _, Nat.zero_le _⟩
theorem NR.alloc' {w : World} {b : Nat} {A0 A1 : Option Addr} {c0 c1 : Nat} {P : List Int} {M : List S39} (h : NR w b A0 c0 P A1 c1 M) (o : Obj) : NR (w.alloc o) b A0 c0 P A1 c1 M := h.below (below_alloc (Below.refl _ _) o)
theorem blk_new1 (W : World) (o : Obj) (cs : Array Value) (n : Nat) : ((W.alloc o).alloc (.cells cs n)).heap[W.heap.size + 1]? = some (.cells cs n (0, 0)) := blk_next W o cs n
theorem blk_new2 (W : World) (p q : Addr) (u v : Value) (cs : Array Value) (n : Nat) : (((W.setCell p u).setCell q v).alloc (.cells cs n)).heap[W.heap.size]? = some (.cells cs n (0, 0)) := by
  have e : ((W.setCell p u).setCell q v).heap.size = W.heap.size := by simp [World.setCell]
  have h := blk_new ((W.setCell p u).setCell q v) (.cells cs n (0, 0))
  rw [e] at h
  exact h
theorem blk_new3 (W : World) (p q r : Addr) (u v z : Value) (cs : Array Value) (n : Nat) : ((((W.setCell p u).setCell q v).setCell r z).alloc (.cells cs n)).heap[W.heap.size]? = some (.cells cs n (0, 0)) := by
  have e : (((W.setCell p u).setCell q v).setCell r z).heap.size = W.heap.size := by simp [World.setCell]
  have h := blk_new (((W.setCell p u).setCell q v).setCell r z) (.cells cs n (0, 0))
  rw [e] at h
  exact h
/-- The slices of a network and of a message that were made from block b on. -/
structure NM (w : World) (b : Nat) (A0 : Option Addr) (c0 : Nat) (P : List Int) (A1 : Option Addr) (c1 : Nat) (M : List S39) (A2 : Option Addr) (c2 : Nat) (body : List Int) : Prop where
  net : NR w b A0 c0 P A1 c1 M
  body : Kd.R (Kd.int .u8) 5 w b (fun _ => True) (.slice A2 body.length c2) body
section
variable {w w' : World} {b b' : Nat} {A0 A1 A2 : Option Addr} {c0 c1 c2 : Nat} {P body : List Int} {M : List S39}
theorem NM.below (h : NM w b A0 c0 P A1 c1 M A2 c2 body) (hb : Below w.heap.size w w') : NM w' b A0 c0 P A1 c1 M A2 c2 body := ⟨h.net.below hb, Kd.R_below h.body hb⟩
theorem NM.alloc (h : NM w b A0 c0 P A1 c1 M A2 c2 body) (o : Obj) : NM (w.alloc o) b A0 c0 P A1 c1 M A2 c2 body := h.below (below_alloc (Below.refl _ _) o)
theorem NM.lower (h : NM w b A0 c0 P A1 c1 M A2 c2 body) (hb : b' ≤ b) : NM w b' A0 c0 P A1 c1 M A2 c2 body := ⟨h.net.lower hb, Kd.R_lower h.body hb⟩
theorem NM.under (h : NM w b A0 c0 P A1 c1 M A2 c2 body) {p : Addr} (hp : p.block < b) (u : Value) : NM (w.setCell p u) b A0 c0 P A1 c1 M A2 c2 body := ⟨h.net.under hp u, R_under h.body hp u⟩
end
theorem nm1 {wr w2 : World} {b n0 n1 n2 e0 e1 e2 : Nat} {f t : Int} {C0 C1 C2 : Option Addr} {P2 body : List Int} {M2 : List S39} (hbwr : b ≤ wr.heap.size) (hN : NM w2 wr.drew.heap.size C0 e0 P2 C1 e1 M2 C2 e2 body) : NM ((w2.alloc (.cells #[.slice C0 n0 e0, .slice C1 n1 e1] 25)).alloc (.cells #[.int .i64 f, .int .i64 t, .slice C2 n2 e2] 39)) b C0 e0 P2 C1 e1 M2 C2 e2 body := by
  refine NM.lower (b := ?bb) ?h1 ?h2
  case h1 => repeat (first | with_reducible exact hN | with_reducible refine NM.alloc ?_ _ | with_reducible refine NM.under ?_ ?_ _)
             all_goals (first | (simp; done) | (simp; omega))
  case h2 => exact Nat.le_trans hbwr (by first | (simp; done) | (simp; omega))
theorem nm2 {wr w2 : World} {b n0 n1 n2 e0 e1 e2 : Nat} {f t : Int} {C0 C1 C2 : Option Addr} {P2 body : List Int} {M2 : List S39} (hbwr : b ≤ wr.heap.size) (hN : NM w2 wr.drew.heap.size C0 e0 P2 C1 e1 M2 C2 e2 body) : NM ((w2.alloc (.cells #[.int .i64 f, .int .i64 t, .slice C2 n2 e2] 39)).alloc (.cells #[.slice C0 n0 e0, .slice C1 n1 e1] 25)) b C0 e0 P2 C1 e1 M2 C2 e2 body := by
  refine NM.lower (b := ?bb) ?h1 ?h2
  case h1 => repeat (first | with_reducible exact hN | with_reducible refine NM.alloc ?_ _ | with_reducible refine NM.under ?_ ?_ _)
             all_goals (first | (simp; done) | (simp; omega))
  case h2 => exact Nat.le_trans hbwr (by first | (simp; done) | (simp; omega))
theorem nm3 {wr w2 : World} {b n0 n1 n2 e0 e1 e2 : Nat} {f t : Int} {C0 C1 C2 : Option Addr} {P2 body : List Int} {M2 : List S39} (hbwr : b ≤ wr.heap.size) (hN : NM w2 (wr.alloc (.cells #[.slice none 0 0, .slice none 0 0] 25)).drew.heap.size C0 e0 P2 C1 e1 M2 C2 e2 body) : NM (((w2.setCell ⟨wr.heap.size, 0, none⟩ (.slice C0 n0 e0)).setCell ⟨wr.heap.size, 1, none⟩ (.slice C1 n1 e1)).alloc (.cells #[.int .i64 f, .int .i64 t, .slice C2 n2 e2] 39)) b C0 e0 P2 C1 e1 M2 C2 e2 body := by
  refine NM.lower (b := ?bb) ?h1 ?h2
  case h1 => repeat (first | with_reducible exact hN | with_reducible refine NM.alloc ?_ _ | with_reducible refine NM.under ?_ ?_ _)
             all_goals (first | (simp; done) | (simp; omega))
  case h2 => exact Nat.le_trans hbwr (by first | (simp; done) | (simp; omega))
theorem nm4 {wr w2 : World} {b n0 n1 n2 e0 e1 e2 : Nat} {f t : Int} {C0 C1 C2 : Option Addr} {P2 body : List Int} {M2 : List S39} (hbwr : b ≤ wr.heap.size) (hN : NM w2 ((wr.alloc (.cells #[.slice none 0 0, .slice none 0 0] 25)).alloc (.cells #[.int .i64 0, .int .i64 0, .slice none 0 0] 39)).drew.heap.size C0 e0 P2 C1 e1 M2 C2 e2 body) : NM (((((w2.setCell ⟨wr.heap.size, 0, none⟩ (.slice C0 n0 e0)).setCell ⟨wr.heap.size, 1, none⟩ (.slice C1 n1 e1)).setCell ⟨wr.heap.size + 1, 0, none⟩ (.int .i64 f)).setCell ⟨wr.heap.size + 1, 1, none⟩ (.int .i64 t)).setCell ⟨wr.heap.size + 1, 2, none⟩ (.slice C2 n2 e2)) b C0 e0 P2 C1 e1 M2 C2 e2 body := by
  refine NM.lower (b := ?bb) ?h1 ?h2
  case h1 => repeat (first | with_reducible exact hN | with_reducible refine NM.alloc ?_ _ | with_reducible refine NM.under ?_ ?_ _)
             all_goals (first | (simp; done) | (simp; omega))
  case h2 => exact Nat.le_trans hbwr (by first | (simp; done) | (simp; omega))
theorem nm5 {wr w2 : World} {b n0 n1 n2 e0 e1 e2 : Nat} {f t : Int} {C0 C1 C2 : Option Addr} {P2 body : List Int} {M2 : List S39} (hbwr : b ≤ wr.heap.size) (hN : NM w2 (wr.alloc (.cells #[.int .i64 0, .int .i64 0, .slice none 0 0] 39)).drew.heap.size C0 e0 P2 C1 e1 M2 C2 e2 body) : NM ((((w2.setCell ⟨wr.heap.size, 0, none⟩ (.int .i64 f)).setCell ⟨wr.heap.size, 1, none⟩ (.int .i64 t)).setCell ⟨wr.heap.size, 2, none⟩ (.slice C2 n2 e2)).alloc (.cells #[.slice C0 n0 e0, .slice C1 n1 e1] 25)) b C0 e0 P2 C1 e1 M2 C2 e2 body := by
  refine NM.lower (b := ?bb) ?h1 ?h2
  case h1 => repeat (first | with_reducible exact hN | with_reducible refine NM.alloc ?_ _ | with_reducible refine NM.under ?_ ?_ _)
             all_goals (first | (simp; done) | (simp; omega))
  case h2 => exact Nat.le_trans hbwr (by first | (simp; done) | (simp; omega))
theorem nm6 {wr w2 : World} {b n0 n1 n2 e0 e1 e2 : Nat} {f t : Int} {C0 C1 C2 : Option Addr} {P2 body : List Int} {M2 : List S39} (hbwr : b ≤ wr.heap.size) (hN : NM w2 ((wr.alloc (.cells #[.int .i64 0, .int .i64 0, .slice none 0 0] 39)).alloc (.cells #[.slice none 0 0, .slice none 0 0] 25)).drew.heap.size C0 e0 P2 C1 e1 M2 C2 e2 body) : NM (((((w2.setCell ⟨wr.heap.size + 1, 0, none⟩ (.slice C0 n0 e0)).setCell ⟨wr.heap.size + 1, 1, none⟩ (.slice C1 n1 e1)).setCell ⟨wr.heap.size, 0, none⟩ (.int .i64 f)).setCell ⟨wr.heap.size, 1, none⟩ (.int .i64 t)).setCell ⟨wr.heap.size, 2, none⟩ (.slice C2 n2 e2)) b C0 e0 P2 C1 e1 M2 C2 e2 body := by
  refine NM.lower (b := ?bb) ?h1 ?h2
  case h1 => repeat (first | with_reducible exact hN | with_reducible refine NM.alloc ?_ _ | with_reducible refine NM.under ?_ ?_ _)
             all_goals (first | (simp; done) | (simp; omega))
  case h2 => exact Nat.le_trans hbwr (by first | (simp; done) | (simp; omega))
/-- The same, read: what they lead to lies in ok. -/
structure XM (w : World) (ok : Nat → Prop) (A0 : Option Addr) (c0 : Nat) (P : List Int) (A1 : Option Addr) (c1 : Nat) (M : List S39) (A2 : Option Addr) (c2 : Nat) (body : List Int) : Prop where
  net : NF w ok A0 c0 P A1 c1 M
  body : Kd.F (Kd.int .u8) w ok A2 body.length body ∧ body.length ≤ c2
section
variable {w w' : World} {ok ok' : Nat → Prop} {A0 A1 A2 : Option Addr} {c0 c1 c2 : Nat} {P body : List Int} {M : List S39}
theorem XM.below (h : XM w ok A0 c0 P A1 c1 M A2 c2 body) (hb : Below w.heap.size w w') : XM w' ok A0 c0 P A1 c1 M A2 c2 body := ⟨h.net.below hb, Kd.F_below h.body.1 hb, h.body.2⟩
theorem XM.alloc (h : XM w ok A0 c0 P A1 c1 M A2 c2 body) (o : Obj) : XM (w.alloc o) ok A0 c0 P A1 c1 M A2 c2 body := h.below (below_alloc (Below.refl _ _) o)
theorem XM.mono (h : XM w ok A0 c0 P A1 c1 M A2 c2 body) (ho : ∀ k, ok k → ok' k) : XM w ok' A0 c0 P A1 c1 M A2 c2 body := ⟨h.net.mono ho, Kd.F_mono h.body.1 ho, h.body.2⟩
theorem XM.far (h : XM w ok A0 c0 P A1 c1 M A2 c2 body) {p : Addr} (ho : ∀ k, ok k → k ≠ p.block) (u : Value) : XM (w.setCell p u) ok A0 c0 P A1 c1 M A2 c2 body := ⟨h.net.far ho u, Kd.F_far h.body.1 ho u, h.body.2⟩
end
theorem xm1 {wr w2 : World} {B n0 n1 n2 e0 e1 e2 : Nat} {f t : Int} {C0 C1 C2 : Option Addr} {P2 body : List Int} {M2 : List S39} (hbwr : B < wr.heap.size) (hN : XM w2 (fun k => (k ≠ B ∧ k < wr.heap.size) ∨ wr.drew.heap.size ≤ k) C0 e0 P2 C1 e1 M2 C2 e2 body) : XM ((w2.alloc (.cells #[.slice C0 n0 e0, .slice C1 n1 e1] 25)).alloc (.cells #[.int .i64 f, .int .i64 t, .slice C2 n2 e2] 39)) (fun k => k ≠ B) C0 e0 P2 C1 e1 M2 C2 e2 body := by
  refine XM.mono (ok := ?o) ?h1 ?h2
  case h1 => repeat (first | with_reducible exact hN | with_reducible refine XM.alloc ?_ _ | with_reducible refine XM.far ?_ ?_ _)
             all_goals (intro k hk; rcases hk with ⟨_, hk⟩ | hk <;> (simp at hk ⊢; omega))
  case h2 => intro k hk; rcases hk with ⟨hk, _⟩ | hk; exact hk; (simp at hk; omega)
theorem xm2 {wr w2 : World} {B n0 n1 n2 e0 e1 e2 : Nat} {f t : Int} {C0 C1 C2 : Option Addr} {P2 body : List Int} {M2 : List S39} (hbwr : B < wr.heap.size) (hN : XM w2 (fun k => (k ≠ B ∧ k < wr.heap.size) ∨ wr.drew.heap.size ≤ k) C0 e0 P2 C1 e1 M2 C2 e2 body) : XM ((w2.alloc (.cells #[.int .i64 f, .int .i64 t, .slice C2 n2 e2] 39)).alloc (.cells #[.slice C0 n0 e0, .slice C1 n1 e1] 25)) (fun k => k ≠ B) C0 e0 P2 C1 e1 M2 C2 e2 body := by
  refine XM.mono (ok := ?o) ?h1 ?h2
  case h1 => repeat (first | with_reducible exact hN | with_reducible refine XM.alloc ?_ _ | with_reducible refine XM.far ?_ ?_ _)
             all_goals (intro k hk; rcases hk with ⟨_, hk⟩ | hk <;> (simp at hk ⊢; omega))
  case h2 => intro k hk; rcases hk with ⟨hk, _⟩ | hk; exact hk; (simp at hk; omega)
theorem xm3 {wr w2 : World} {B n0 n1 n2 e0 e1 e2 : Nat} {f t : Int} {C0 C1 C2 : Option Addr} {P2 body : List Int} {M2 : List S39} (hbwr : B < wr.heap.size) (hN : XM w2 (fun k => (k ≠ B ∧ k < wr.heap.size) ∨ (wr.alloc (.cells #[.slice none 0 0, .slice none 0 0] 25)).drew.heap.size ≤ k) C0 e0 P2 C1 e1 M2 C2 e2 body) : XM (((w2.setCell ⟨wr.heap.size, 0, none⟩ (.slice C0 n0 e0)).setCell ⟨wr.heap.size, 1, none⟩ (.slice C1 n1 e1)).alloc (.cells #[.int .i64 f, .int .i64 t, .slice C2 n2 e2] 39)) (fun k => k ≠ B) C0 e0 P2 C1 e1 M2 C2 e2 body := by
  refine XM.mono (ok := ?o) ?h1 ?h2
  case h1 => repeat (first | with_reducible exact hN | with_reducible refine XM.alloc ?_ _ | with_reducible refine XM.far ?_ ?_ _)
             all_goals (intro k hk; rcases hk with ⟨_, hk⟩ | hk <;> (simp at hk ⊢; omega))
  case h2 => intro k hk; rcases hk with ⟨hk, _⟩ | hk; exact hk; (simp at hk; omega)
theorem xm4 {wr w2 : World} {B n0 n1 n2 e0 e1 e2 : Nat} {f t : Int} {C0 C1 C2 : Option Addr} {P2 body : List Int} {M2 : List S39} (hbwr : B < wr.heap.size) (hN : XM w2 (fun k => (k ≠ B ∧ k < wr.heap.size) ∨ ((wr.alloc (.cells #[.slice none 0 0, .slice none 0 0] 25)).alloc (.cells #[.int .i64 0, .int .i64 0, .slice none 0 0] 39)).drew.heap.size ≤ k) C0 e0 P2 C1 e1 M2 C2 e2 body) : XM (((((w2.setCell ⟨wr.heap.size, 0, none⟩ (.slice C0 n0 e0)).setCell ⟨wr.heap.size, 1, none⟩ (.slice C1 n1 e1)).setCell ⟨wr.heap.size + 1, 0, none⟩ (.int .i64 f)).setCell ⟨wr.heap.size + 1, 1, none⟩ (.int .i64 t)).setCell ⟨wr.heap.size + 1, 2, none⟩ (.slice C2 n2 e2)) (fun k => k ≠ B) C0 e0 P2 C1 e1 M2 C2 e2 body := by
  refine XM.mono (ok := ?o) ?h1 ?h2
  case h1 => repeat (first | with_reducible exact hN | with_reducible refine XM.alloc ?_ _ | with_reducible refine XM.far ?_ ?_ _)
             all_goals (intro k hk; rcases hk with ⟨_, hk⟩ | hk <;> (simp at hk ⊢; omega))
  case h2 => intro k hk; rcases hk with ⟨hk, _⟩ | hk; exact hk; (simp at hk; omega)
theorem xm5 {wr w2 : World} {B n0 n1 n2 e0 e1 e2 : Nat} {f t : Int} {C0 C1 C2 : Option Addr} {P2 body : List Int} {M2 : List S39} (hbwr : B < wr.heap.size) (hN : XM w2 (fun k => (k ≠ B ∧ k < wr.heap.size) ∨ (wr.alloc (.cells #[.int .i64 0, .int .i64 0, .slice none 0 0] 39)).drew.heap.size ≤ k) C0 e0 P2 C1 e1 M2 C2 e2 body) : XM ((((w2.setCell ⟨wr.heap.size, 0, none⟩ (.int .i64 f)).setCell ⟨wr.heap.size, 1, none⟩ (.int .i64 t)).setCell ⟨wr.heap.size, 2, none⟩ (.slice C2 n2 e2)).alloc (.cells #[.slice C0 n0 e0, .slice C1 n1 e1] 25)) (fun k => k ≠ B) C0 e0 P2 C1 e1 M2 C2 e2 body := by
  refine XM.mono (ok := ?o) ?h1 ?h2
  case h1 => repeat (first | with_reducible exact hN | with_reducible refine XM.alloc ?_ _ | with_reducible refine XM.far ?_ ?_ _)
             all_goals (intro k hk; rcases hk with ⟨_, hk⟩ | hk <;> (simp at hk ⊢; omega))
  case h2 => intro k hk; rcases hk with ⟨hk, _⟩ | hk; exact hk; (simp at hk; omega)
theorem xm6 {wr w2 : World} {B n0 n1 n2 e0 e1 e2 : Nat} {f t : Int} {C0 C1 C2 : Option Addr} {P2 body : List Int} {M2 : List S39} (hbwr : B < wr.heap.size) (hN : XM w2 (fun k => (k ≠ B ∧ k < wr.heap.size) ∨ ((wr.alloc (.cells #[.int .i64 0, .int .i64 0, .slice none 0 0] 39)).alloc (.cells #[.slice none 0 0, .slice none 0 0] 25)).drew.heap.size ≤ k) C0 e0 P2 C1 e1 M2 C2 e2 body) : XM (((((w2.setCell ⟨wr.heap.size + 1, 0, none⟩ (.slice C0 n0 e0)).setCell ⟨wr.heap.size + 1, 1, none⟩ (.slice C1 n1 e1)).setCell ⟨wr.heap.size, 0, none⟩ (.int .i64 f)).setCell ⟨wr.heap.size, 1, none⟩ (.int .i64 t)).setCell ⟨wr.heap.size, 2, none⟩ (.slice C2 n2 e2)) (fun k => k ≠ B) C0 e0 P2 C1 e1 M2 C2 e2 body := by
  refine XM.mono (ok := ?o) ?h1 ?h2
  case h1 => repeat (first | with_reducible exact hN | with_reducible refine XM.alloc ?_ _ | with_reducible refine XM.far ?_ ?_ _)
             all_goals (intro k hk; rcases hk with ⟨_, hk⟩ | hk <;> (simp at hk ⊢; omega))
  case h2 => intro k hk; rcases hk with ⟨hk, _⟩ | hk; exact hk; (simp at hk; omega)

end Go.Proofs.Ytlaheldjlfckkaa.A

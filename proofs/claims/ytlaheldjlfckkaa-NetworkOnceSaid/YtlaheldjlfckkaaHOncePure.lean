/- NetworkOnce over numbers and lists: how often a message was sent, delivered, and lies in the mail. -/
import Derived.Test.YtlaheldjlfckkaaHInv
import Derived.Test.YtlaheldjlfckkaaHCount
namespace Go.Proofs.Ytlaheldjlfckkaa.A
open Go.RowKit Go.Proofs.YtlaheldjlfckkaaW.PrintWords
set_option linter.unusedVariables false
set_option linter.unusedSimpArgs false

/-- SameMessage's answer. -/
def sm (m x : S39) : Bool := if x.f0 = m.f0 then (if x.f1 = m.f1 then ((strOfNums x.f2).toList == (strOfNums m.f2).toList) else false) else false
theorem sm_self (m : S39) : sm m m = true := by unfold sm; simp
theorem sm_f (m x : S39) : skiarearef58_SameMessage.f x.f0 x.f1 x.f2 m.f0 m.f1 m.f2 = some (sm m x) := by
  unfold skiarearef58_SameMessage.f sm
  by_cases h0 : x.f0 = m.f0
  · rw [if_pos h0, if_pos h0]
    by_cases h1 : x.f1 = m.f1
    · rw [if_pos h1, if_pos h1]
    · rw [if_neg h1, if_neg h1]
  · rw [if_neg h0, if_neg h0]
theorem count_loop (l : List S39) (hl : l.length ≤ 1000) (m : S39) (d : Nat) : ∀ (k j c : Nat), j + d = l.length → d < k → c ≤ j →
    skiarealaw58_count.l0 k l (c : Int) (j : Int) m.f0 m.f1 m.f2 = some ((c + (l.drop j).countP (sm m) : Nat) : Int) := by
  induction d with
  | zero =>
    intro k j c hj hk hc
    obtain ⟨k, rfl⟩ : ∃ m, k = m + 1 := ⟨k - 1, by omega⟩
    simp only [skiarealaw58_count.l0]
    rw [if_neg (by omega), List.drop_eq_nil_of_le (by omega)]
    simp
  | succ d ih =>
    intro k j c hj hk hc
    obtain ⟨k, rfl⟩ : ∃ m, k = m + 1 := ⟨k - 1, by omega⟩
    simp only [skiarealaw58_count.l0]
    rw [if_pos (by omega), if_pos (by omega), sm_f, drop_rd l j (by omega), wrap_small (by omega) (by omega), wrap_small (by omega) (by omega)]
    simp only [Option.bind_some, List.countP_cons]
    have h1 := ih k (j + 1) (c + 1) (by omega) (by omega) (by omega)
    have h2 := ih k (j + 1) c (by omega) (by omega) (by omega)
    simp only [Int.natCast_add, Int.cast_ofNat_Int] at h1 h2 ⊢
    cases h : sm m (rd_T39 l (j : Int)) with
    | true =>
      rw [if_pos rfl, h1]
      simp
      omega
    | false =>
      rw [if_neg (by decide), h2]
      simp
theorem count_f (l : List S39) (hl : l.length ≤ 1000) (m : S39) (k : Nat) (hk : 1000 < k) : skiarealaw58_count.f k l m.f0 m.f1 m.f2 = some ((l.countP (sm m) : Nat) : Int) := by
  unfold skiarealaw58_count.f
  have := count_loop l hl m l.length k 0 0 (by omega) (by omega) (by omega)
  simpa using this

theorem skip_count (p : S39 → Bool) : ∀ (M : List S39) (i j : Nat), j ≤ i → i < j + M.length → (skip (i : Int) (j : Int) M).countP p + (if p (rd_T39 M ((i - j : Nat) : Int)) = true then 1 else 0) = M.countP p
  | [], i, j, h0, h1 => by simp at h1; omega
  | m :: ms, i, j, h0, h1 => by
    simp only [skip]
    by_cases he : j = i
    · subst he
      rw [if_pos rfl, skip_none (j : Int) ms ((j : Int) + 1) (by omega), List.countP_cons]
      simp [rd_T39]
    · rw [if_neg (by omega)]
      have := skip_count p ms i (j + 1) (by omega) (by simp at h1; omega)
      simp only [Int.natCast_add, Int.cast_ofNat_Int] at this
      rw [List.countP_cons, List.countP_cons]
      have e : rd_T39 (m :: ms) ((i - j : Nat) : Int) = rd_T39 ms ((i - (j + 1) : Nat) : Int) := by
        obtain ⟨q, hq⟩ : ∃ q, i - j = q + 1 := ⟨i - j - 1, by omega⟩
        have hq2 : i - (j + 1) = q := by omega
        rw [hq, hq2]
        simp [rd_T39, Int.toNat_natCast]
      rw [e]
      omega

/-- What the loop keeps: each message of the mail was sent; without Copy none is there more often than it was sent. -/
structure OnceInv (M sent got : List S39) (copied : Bool) : Prop where
  sub : ∀ m ∈ M, m ∈ sent
  cnt : copied = false → ∀ p : S39 → Bool, got.countP p + M.countP p ≤ sent.countP p
theorem OnceInv.start : OnceInv [] [] [] false := ⟨fun _ h => by simp at h, fun _ p => by simp⟩
theorem OnceInv.send {M sent got : List S39} {copied : Bool} (h : OnceInv M sent got copied) (m : S39) : OnceInv (M ++ [m]) (sent ++ [m]) got copied :=
  ⟨fun x hx => by
    rcases List.mem_append.1 hx with hx | hx
    · exact List.mem_append_left _ (h.sub x hx)
    · exact List.mem_append_right _ hx,
   fun hc p => by have := h.cnt hc p; simp only [List.countP_append]; omega⟩
theorem OnceInv.skip {M sent got : List S39} {copied : Bool} (h : OnceInv M sent got copied) {i : Int} (hi : indexP M i = true) : OnceInv (skip i 0 M) sent got copied := by
  obtain ⟨h0, h1⟩ := index_bounds hi
  obtain ⟨j, rfl⟩ := Int.eq_ofNat_of_zero_le h0
  exact ⟨fun x hx => h.sub x (skip_mem hx), fun hc p => by
    have h2 := h.cnt hc p
    have h3 := skip_count p M j 0 (by omega) (by omega)
    simp only [Int.cast_ofNat_Int] at h3
    omega⟩
theorem OnceInv.deliver {M sent got : List S39} {copied : Bool} (h : OnceInv M sent got copied) {i : Int} (hi : indexP M i = true) : OnceInv (Go.Proofs.Ytlaheldjlfckkaa.A.skip i 0 M) sent (got ++ [rd_T39 M i]) copied := by
  obtain ⟨h0, h1⟩ := index_bounds hi
  obtain ⟨j, rfl⟩ := Int.eq_ofNat_of_zero_le h0
  exact ⟨fun x hx => h.sub x (skip_mem hx), fun hc p => by
    have h2 := h.cnt hc p
    have h3 := skip_count p M j 0 (by omega) (by omega)
    simp only [Int.cast_ofNat_Int, Nat.sub_zero] at h3
    rw [List.countP_append, List.countP_singleton]
    omega⟩
theorem OnceInv.copy {M sent got : List S39} {copied : Bool} (h : OnceInv M sent got copied) {i : Int} (hi : indexP M i = true) : OnceInv (M ++ [rd_T39 M i]) sent got true := by
  obtain ⟨h0, h1⟩ := index_bounds hi
  obtain ⟨j, rfl⟩ := Int.eq_ofNat_of_zero_le h0
  exact ⟨fun x hx => by
    rcases List.mem_append.1 hx with hx | hx
    · exact h.sub x hx
    · rw [List.mem_singleton.1 hx]; exact h.sub _ (rd_mem (by omega)), fun hc => by cases hc⟩
theorem OnceInv.split {M sent got : List S39} {copied : Bool} (h : OnceInv M sent got copied) : OnceInv M sent got copied := h

/-- A call without an error, kind by kind. -/
theorem once_send {P : List Int} {M : List S39} {o : S43} (h0 : o.f0 = 0) {P' : List Int} {M' : List S39} {f t : Int} {b : List Int} (h : doneP P M o = (P', M', f, t, b, 0)) : M' = M ++ [⟨o.f1, o.f2, o.f3⟩] := by
  unfold doneP sendP at h
  rw [if_pos h0] at h
  split at h
  · split at h
    · simp [lift3] at h
    · simp only [lift3, Prod.mk.injEq] at h
      exact h.2.1.symm
  · rename_i hm
    simp only [lift3, Prod.mk.injEq] at h
    exact absurd h.2.2.2.2.2 hm
theorem once_deliver {P : List Int} {M : List S39} {o : S43} (h0 : o.f0 = 1) {P' : List Int} {M' : List S39} {f t : Int} {b : List Int} (h : doneP P M o = (P', M', f, t, b, 0)) : indexP M o.f1 = true ∧ M' = skip o.f1 0 M ∧ rd_T39 M o.f1 = ⟨f, t, b⟩ := by
  unfold doneP deliverP at h
  rw [if_neg (by omega), if_pos h0] at h
  split at h
  · rename_i hi
    split at h
    · simp only [Prod.mk.injEq] at h
      obtain ⟨_, h2, h3, h4, h5, _⟩ := h
      refine ⟨hi, h2.symm, ?_⟩
      rw [← h3, ← h4, ← h5]
    · simp at h
  · simp at h
theorem once_other {P : List Int} {M sent got : List S39} {copied : Bool} {o : S43} (h0 : o.f0 ≠ 0) (h1 : o.f0 ≠ 1) {P' : List Int} {M' : List S39} {f t : Int} {b : List Int} (h : doneP P M o = (P', M', f, t, b, 0)) (H : OnceInv M sent got copied) : OnceInv M' sent got (copied || o.f0 == 3) := by
  unfold doneP at h
  rw [if_neg h0, if_neg h1] at h
  split at h
  · rename_i h2
    have e : (o.f0 == 3) = false := by rw [h2]; rfl
    rw [e, Bool.or_false]
    unfold loseP at h
    split at h
    · rename_i hi
      simp only [lift3, Prod.mk.injEq] at h
      rw [← h.2.1]
      exact H.skip hi
    · simp [lift3] at h
  · split at h
    · rename_i h3
      have e : (o.f0 == 3) = true := by rw [h3]; rfl
      rw [e, Bool.or_true]
      unfold copyP at h
      split at h
      · rename_i hi
        split at h
        · simp [lift3] at h
        · simp only [lift3, Prod.mk.injEq] at h
          rw [← h.2.1]
          exact H.copy hi
      · simp [lift3] at h
    · rename_i h3
      have e : (o.f0 == 3) = false := by simpa using h3
      rw [e, Bool.or_false]
      unfold splitP at h
      split at h
      · simp only [lift3, Prod.mk.injEq] at h
        rw [← h.2.1]
        exact H
      · simp [lift3] at h

/-! ### rows in memory -/
theorem N_empty {W : World} {base : Nat} {ok : Nat → Prop} (hb : base ≤ W.heap.size) (hok : ok W.heap.size) : Kd.N k39 39 (W.alloc (.cells #[] 39)) base ok (.slice (some ⟨W.heap.size, 0, none⟩) 0 0) [] := by
  refine Kd.R_N ⟨fun k hk => ?_, [], ?_, Reps.none _ _⟩
  · have : W.heap.size = k := by simpa [Value.ownBlock] using hk
    subst this
    exact hok
  · have h2 := World.ownsRow_lit (base := base) (e := 39) (size := k39.sz) W #[] 0 hb (by decide) (by simp)
    simpa using h2
/-- The slices of a network and of a message that were made from block b on. -/
structure NM (w : World) (b : Nat) (A0 : Option Addr) (c0 : Nat) (P : List Int) (A1 : Option Addr) (c1 : Nat) (M : List S39) (A2 : Option Addr) (c2 : Nat) (body : List Int) : Prop where
  net : NR w b A0 c0 P A1 c1 M
  body : Kd.R (Kd.int .u8) 5 w b (fun _ => True) (.slice A2 body.length c2) body
section
variable {w w' : World} {b b' : Nat} {A0 A1 A2 : Option Addr} {c0 c1 c2 : Nat} {P body : List Int} {M : List S39}
theorem NM.below (h : NM w b A0 c0 P A1 c1 M A2 c2 body) (hb : Below w.heap.size w w') : NM w' b A0 c0 P A1 c1 M A2 c2 body := ⟨h.net.below hb, Kd.R_below h.body hb⟩
theorem NM.alloc (h : NM w b A0 c0 P A1 c1 M A2 c2 body) (o : Obj) : NM (w.alloc o) b A0 c0 P A1 c1 M A2 c2 body := h.below (below_alloc (Below.refl _ _) o)
theorem NM.lower (h : NM w b A0 c0 P A1 c1 M A2 c2 body) (hb : b' ≤ b) : NM w b' A0 c0 P A1 c1 M A2 c2 body := ⟨h.net.lower hb, Kd.R_lower h.body hb⟩
theorem NM.under (h : NM w b A0 c0 P A1 c1 M A2 c2 body) {p : Addr} (hp : p.block < b) (u : Value) : NM (w.setCell p u) b A0 c0 P A1 c1 M A2 c2 body := ⟨h.net.under hp u, R_under h.body hp u⟩
/-- Another row, of blocks below b, has been written. -/
theorem NM.grown (h : NM w b A0 c0 P A1 c1 M A2 c2 body) {row : Option Nat} (hg : w.grownBy w' row) (hr : ∀ k, row = some k → k < b) : NM w' b A0 c0 P A1 c1 M A2 c2 body := by
  have g : ∀ {α : Type} {d : Kd α} {e : Nat} {v : Value} {xs : List α}, Kd.R d e w b (fun _ => True) v xs → Kd.R d e w' b (fun _ => True) v xs := fun h =>
    Kd.R_mono (Kd.R_grown (Kd.R_mono (Kd.R_bound h) (ok' := fun k => b ≤ k) (fun k hk => hk.2.1)) hg (fun k hk e => by have := hr k e.symm; omega)) (fun _ _ => trivial)
  exact ⟨⟨g h.net.parts, g h.net.mail⟩, g h.body⟩
end
theorem NR.alloc' {w : World} {b : Nat} {A0 A1 : Option Addr} {c0 c1 : Nat} {P : List Int} {M : List S39} (h : NR w b A0 c0 P A1 c1 M) (o : Obj) : NR (w.alloc o) b A0 c0 P A1 c1 M := h.below (below_alloc (Below.refl _ _) o)
theorem blk_new1 (W : World) (o : Obj) (cs : Array Value) (n : Nat) : ((W.alloc o).alloc (.cells cs n)).heap[W.heap.size + 1]? = some (.cells cs n (0, 0)) := by
  have h := blk_new (W.alloc o) (.cells cs n (0, 0))
  simpa using h
theorem blk_new2 (W : World) (p q : Addr) (u v : Value) (cs : Array Value) (n : Nat) : (((W.setCell p u).setCell q v).alloc (.cells cs n)).heap[W.heap.size]? = some (.cells cs n (0, 0)) := by
  have e : ((W.setCell p u).setCell q v).heap.size = W.heap.size := by simp [World.setCell]
  have h := blk_new ((W.setCell p u).setCell q v) (.cells cs n (0, 0))
  rw [e] at h
  exact h
theorem blk_new3 (W : World) (p q r : Addr) (u v z : Value) (cs : Array Value) (n : Nat) : ((((W.setCell p u).setCell q v).setCell r z).alloc (.cells cs n)).heap[W.heap.size]? = some (.cells cs n (0, 0)) := by
  have e : (((W.setCell p u).setCell q v).setCell r z).heap.size = W.heap.size := by simp [World.setCell]
  have h := blk_new (((W.setCell p u).setCell q v).setCell r z) (.cells cs n (0, 0))
  rw [e] at h
  exact h
theorem nm1 {wr w2 : World} {b n0 n1 n2 e0 e1 e2 : Nat} {f t : Int} {C0 C1 C2 : Option Addr} {P2 body : List Int} {M2 : List S39} (hbwr : b ≤ wr.heap.size) (hN : NM w2 wr.drew.heap.size C0 e0 P2 C1 e1 M2 C2 e2 body) : NM ((w2.alloc (.cells #[.slice C0 n0 e0, .slice C1 n1 e1] 25)).alloc (.cells #[.int .i64 f, .int .i64 t, .slice C2 n2 e2] 39)) b C0 e0 P2 C1 e1 M2 C2 e2 body := by
  refine NM.lower (b := ?bb) ?h1 ?h2
  case h1 => repeat (first | with_reducible exact hN | with_reducible refine NM.alloc ?_ _ | with_reducible refine NM.under ?_ ?_ _)
             all_goals (first | (simp; done) | (simp; omega))
  case h2 => exact Nat.le_trans hbwr (by first | (simp; done) | (simp; omega))
theorem nm2 {wr w2 : World} {b n0 n1 n2 e0 e1 e2 : Nat} {f t : Int} {C0 C1 C2 : Option Addr} {P2 body : List Int} {M2 : List S39} (hbwr : b ≤ wr.heap.size) (hN : NM w2 wr.drew.heap.size C0 e0 P2 C1 e1 M2 C2 e2 body) : NM ((w2.alloc (.cells #[.int .i64 f, .int .i64 t, .slice C2 n2 e2] 39)).alloc (.cells #[.slice C0 n0 e0, .slice C1 n1 e1] 25)) b C0 e0 P2 C1 e1 M2 C2 e2 body := by
  refine NM.lower (b := ?bb) ?h1 ?h2
  case h1 => repeat (first | with_reducible exact hN | with_reducible refine NM.alloc ?_ _ | with_reducible refine NM.under ?_ ?_ _)
             all_goals (first | (simp; done) | (simp; omega))
  case h2 => exact Nat.le_trans hbwr (by first | (simp; done) | (simp; omega))
theorem nm3 {wr w2 : World} {b n0 n1 n2 e0 e1 e2 : Nat} {f t : Int} {C0 C1 C2 : Option Addr} {P2 body : List Int} {M2 : List S39} (hbwr : b ≤ wr.heap.size) (hN : NM w2 (wr.alloc (.cells #[.slice none 0 0, .slice none 0 0] 25)).drew.heap.size C0 e0 P2 C1 e1 M2 C2 e2 body) : NM (((w2.setCell ⟨wr.heap.size, 0, none⟩ (.slice C0 n0 e0)).setCell ⟨wr.heap.size, 1, none⟩ (.slice C1 n1 e1)).alloc (.cells #[.int .i64 f, .int .i64 t, .slice C2 n2 e2] 39)) b C0 e0 P2 C1 e1 M2 C2 e2 body := by
  refine NM.lower (b := ?bb) ?h1 ?h2
  case h1 => repeat (first | with_reducible exact hN | with_reducible refine NM.alloc ?_ _ | with_reducible refine NM.under ?_ ?_ _)
             all_goals (first | (simp; done) | (simp; omega))
  case h2 => exact Nat.le_trans hbwr (by first | (simp; done) | (simp; omega))
theorem nm4 {wr w2 : World} {b n0 n1 n2 e0 e1 e2 : Nat} {f t : Int} {C0 C1 C2 : Option Addr} {P2 body : List Int} {M2 : List S39} (hbwr : b ≤ wr.heap.size) (hN : NM w2 ((wr.alloc (.cells #[.slice none 0 0, .slice none 0 0] 25)).alloc (.cells #[.int .i64 0, .int .i64 0, .slice none 0 0] 39)).drew.heap.size C0 e0 P2 C1 e1 M2 C2 e2 body) : NM (((((w2.setCell ⟨wr.heap.size, 0, none⟩ (.slice C0 n0 e0)).setCell ⟨wr.heap.size, 1, none⟩ (.slice C1 n1 e1)).setCell ⟨wr.heap.size + 1, 0, none⟩ (.int .i64 f)).setCell ⟨wr.heap.size + 1, 1, none⟩ (.int .i64 t)).setCell ⟨wr.heap.size + 1, 2, none⟩ (.slice C2 n2 e2)) b C0 e0 P2 C1 e1 M2 C2 e2 body := by
  refine NM.lower (b := ?bb) ?h1 ?h2
  case h1 => repeat (first | with_reducible exact hN | with_reducible refine NM.alloc ?_ _ | with_reducible refine NM.under ?_ ?_ _)
             all_goals (first | (simp; done) | (simp; omega))
  case h2 => exact Nat.le_trans hbwr (by first | (simp; done) | (simp; omega))
theorem nm5 {wr w2 : World} {b n0 n1 n2 e0 e1 e2 : Nat} {f t : Int} {C0 C1 C2 : Option Addr} {P2 body : List Int} {M2 : List S39} (hbwr : b ≤ wr.heap.size) (hN : NM w2 (wr.alloc (.cells #[.int .i64 0, .int .i64 0, .slice none 0 0] 39)).drew.heap.size C0 e0 P2 C1 e1 M2 C2 e2 body) : NM ((((w2.setCell ⟨wr.heap.size, 0, none⟩ (.int .i64 f)).setCell ⟨wr.heap.size, 1, none⟩ (.int .i64 t)).setCell ⟨wr.heap.size, 2, none⟩ (.slice C2 n2 e2)).alloc (.cells #[.slice C0 n0 e0, .slice C1 n1 e1] 25)) b C0 e0 P2 C1 e1 M2 C2 e2 body := by
  refine NM.lower (b := ?bb) ?h1 ?h2
  case h1 => repeat (first | with_reducible exact hN | with_reducible refine NM.alloc ?_ _ | with_reducible refine NM.under ?_ ?_ _)
             all_goals (first | (simp; done) | (simp; omega))
  case h2 => exact Nat.le_trans hbwr (by first | (simp; done) | (simp; omega))
theorem nm6 {wr w2 : World} {b n0 n1 n2 e0 e1 e2 : Nat} {f t : Int} {C0 C1 C2 : Option Addr} {P2 body : List Int} {M2 : List S39} (hbwr : b ≤ wr.heap.size) (hN : NM w2 ((wr.alloc (.cells #[.int .i64 0, .int .i64 0, .slice none 0 0] 39)).alloc (.cells #[.slice none 0 0, .slice none 0 0] 25)).drew.heap.size C0 e0 P2 C1 e1 M2 C2 e2 body) : NM (((((w2.setCell ⟨wr.heap.size + 1, 0, none⟩ (.slice C0 n0 e0)).setCell ⟨wr.heap.size + 1, 1, none⟩ (.slice C1 n1 e1)).setCell ⟨wr.heap.size, 0, none⟩ (.int .i64 f)).setCell ⟨wr.heap.size, 1, none⟩ (.int .i64 t)).setCell ⟨wr.heap.size, 2, none⟩ (.slice C2 n2 e2)) b C0 e0 P2 C1 e1 M2 C2 e2 body := by
  refine NM.lower (b := ?bb) ?h1 ?h2
  case h1 => repeat (first | with_reducible exact hN | with_reducible refine NM.alloc ?_ _ | with_reducible refine NM.under ?_ ?_ _)
             all_goals (first | (simp; done) | (simp; omega))
  case h2 => exact Nat.le_trans hbwr (by first | (simp; done) | (simp; omega))

end Go.Proofs.Ytlaheldjlfckkaa.A

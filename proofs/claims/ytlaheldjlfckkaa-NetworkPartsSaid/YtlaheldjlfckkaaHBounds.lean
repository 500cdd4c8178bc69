/- NetworkBounds, of the laws of layer 58: the walk and the plain law. -/
import Derived.Test.YtlaheldjlfckkaaHAlive
import Derived.Test.YtlaheldjlfckkaaHLaws
import Derived.Test.YtlaheldjlfckkaaHAfter
import Derived.Test.YtlaheldjlfckkaaAx9
import Derived.Test.YtlaheldjlfckkaaAx13
import Derived.Deep.RegionHeld3
namespace Go.Proofs.Ytlaheldjlfckkaa.A
open Go.RowKit Go.Proofs.YtlaheldjlfckkaaW.PrintWords Go.Proofs.YtlaheldjlfckkaaW.PrintLast Go.Proofs.YtlaheldjlfckkaaW.PrintMore
set_option linter.unusedVariables false
set_option linter.unusedSimpArgs false

/-! ### what holds of a network that the calls make -/
structure Inv (n : Int) (P : List Int) (M : List S39) : Prop where
  len : (P.length : Int) = n
  lo : 1 ≤ n
  hi : n ≤ 16
  parts : P.all okPart = true
  mail : M.length ≤ 256
  each : ∀ m ∈ M, msgP P m.f0 m.f1 m.f2 = 0
theorem Inv.ok {n : Int} {P : List Int} {M : List S39} (h : Inv n P M) : Ok P M := ⟨by have := h.len; have := h.hi; omega, h.mail, fun m hm => msg_body (h.each m hm)⟩
theorem rightGo_zero {P : List Int} : ∀ {M : List S39}, (∀ m ∈ M, msgP P m.f0 m.f1 m.f2 = 0) → rightGo P M = 0
  | [], _ => rfl
  | m :: ms, h => by
    simp only [rightGo]
    rw [if_pos (h m List.mem_cons_self)]
    exact rightGo_zero (fun x hx => h x (List.mem_cons_of_mem _ hx))
theorem Inv.right {n : Int} {P : List Int} {M : List S39} (h : Inv n P M) : rightP P M = 0 := by
  have h1 := h.len
  have h2 := h.lo
  have h3 := h.hi
  have h4 := h.mail
  unfold rightP
  rw [if_neg (by rintro h'; rcases h' with h' | h' | h' <;> first | omega | (rw [h.parts] at h'; cases h')), if_neg (by omega)]
  exact rightGo_zero h.each
theorem msgP_len {P Q : List Int} (h : P.length = Q.length) (a b : Int) (l : List Int) : msgP P a b l = msgP Q a b l := by
  unfold msgP siteP
  rw [h]
theorem Inv.skip {n : Int} {P : List Int} {M : List S39} (h : Inv n P M) (i j : Int) : Inv n P (skip i j M) :=
  ⟨h.len, h.lo, h.hi, h.parts, Nat.le_trans (skip_length j M) h.mail, fun m hm => h.each m (skip_mem hm)⟩
theorem Inv.push {n : Int} {P : List Int} {M : List S39} (h : Inv n P M) (hl : ¬ 256 ≤ M.length) {m : S39} (hm : msgP P m.f0 m.f1 m.f2 = 0) : Inv n P (M ++ [m]) :=
  ⟨h.len, h.lo, h.hi, h.parts, by simp; omega, fun x hx => by
    rcases List.mem_append.1 hx with hx | hx
    · exact h.each x hx
    · simp only [List.mem_singleton] at hx; rw [hx]; exact hm⟩
theorem Inv.rd {n : Int} {P : List Int} {M : List S39} (h : Inv n P M) {i : Int} (hi : indexP M i = true) : msgP P (rd_T39 M i).f0 (rd_T39 M i).f1 (rd_T39 M i).f2 = 0 := by
  obtain ⟨h0, h1⟩ := index_bounds hi
  obtain ⟨j, rfl⟩ := Int.eq_ofNat_of_zero_le h0
  exact h.each _ (rd_mem (by omega))
theorem done_inv {n : Int} {P : List Int} {M : List S39} (h : Inv n P M) (o : S43) (he : (doneP P M o).2.2.2.2.2 = 0) : Inv n (doneP P M o).1 (doneP P M o).2.1 := by
  unfold doneP at he ⊢
  split
  · rename_i h0
    rw [if_pos h0] at he
    simp only [lift3, sendP] at he ⊢
    split
    · rename_i h1
      rw [if_pos h1] at he
      split
      · rename_i h2
        rw [if_pos h2] at he
        simp at he
      · rename_i h2
        exact h.push h2 h1
    · rename_i h1
      rw [if_neg h1] at he
      exact absurd he h1
  · rename_i h0
    rw [if_neg h0] at he
    split
    · rename_i h1
      rw [if_pos h1] at he
      simp only [deliverP] at he ⊢
      split
      · rename_i h2
        rw [if_pos h2] at he
        split
        · exact h.skip _ _
        · rename_i h3
          rw [if_neg h3] at he
          simp at he
      · rename_i h2
        rw [if_neg h2] at he
        simp at he
    · rename_i h1
      rw [if_neg h1] at he
      split
      · rename_i h2
        rw [if_pos h2] at he
        simp only [lift3, loseP] at he ⊢
        split
        · exact h.skip _ _
        · rename_i h3
          rw [if_neg h3] at he
          simp at he
      · rename_i h2
        rw [if_neg h2] at he
        split
        · rename_i h3
          rw [if_pos h3] at he
          simp only [lift3, copyP] at he ⊢
          split
          · rename_i h4
            rw [if_pos h4] at he
            split
            · rename_i h5
              rw [if_pos h5] at he
              simp at he
            · rename_i h5
              exact h.push h5 (h.rd h4)
          · rename_i h4
            rw [if_neg h4] at he
            simp at he
        · rename_i h3
          rw [if_neg h3] at he
          simp only [lift3, splitP] at he ⊢
          split
          · rename_i h4
            refine ⟨by have := h.len; rw [h4.1]; exact this, h.lo, h.hi, h4.2, h.mail, fun m hm => ?_⟩
            rw [msgP_len h4.1]
            exact h.each m hm
          · rename_i h4
            rw [if_neg h4] at he
            simp at he
theorem step_inv {k : Int} {n : List Int × List S39} (h : Inv k n.1 n.2) (o : S43) : Inv k (stepP n o).1 (stepP n o).2 := by
  unfold stepP
  split
  · rename_i he; exact done_inv h o he
  · exact h
theorem new_inv {n : Int} (he : (newP n).2.2 = 0) : Inv n (newP n).1 (newP n).2.1 := by
  unfold newP at he ⊢
  split
  · rename_i h; rw [if_pos h] at he; simp at he
  · rename_i h
    refine ⟨by simp; omega, by omega, by omega, ?_, by simp, by simp⟩
    rw [List.all_eq_true]
    intro x hx
    have := List.eq_of_mem_replicate hx
    subst this
    rfl

theorem small_all {l : List S43} (h : smallP l = true) : l.length ≤ 40 ∧ ∀ o ∈ l, o.f3.length ≤ 3000 ∧ o.f4.length ≤ 40 := by
  unfold smallP at h
  simp only [Bool.and_eq_true, decide_eq_true_eq, List.all_eq_true] at h
  exact ⟨h.1, fun o ho => by have := h.2 o ho; simpa using this⟩

theorem C_one {w : World} {ad : Addr} {c : Nat} {l : List S43} (h : Kd.C k43 w (some ad) l.length l) (hc : l.length ≤ c) {j : Nat} (hj : j < l.length) : Kd.C k43 w (some (ad.add (j * 5))) 1 [rd_T43 l (j : Int)] := by
  have h1 := Kd.C_take h (show j + 1 ≤ l.length by omega)
  have h2 := Kd.C_drop (c := c) h1 (show j ≤ _ by simp; omega) (by simp; omega)
  have e : (l.take (j + 1)).drop j = [rd_T43 l (j : Int)] := by
    rw [List.drop_take, drop_rd43 l j hj, show j + 1 - j = 1 by omega]
    rfl
  rw [e, if_neg (by omega)] at h2
  exact h2

set_option maxHeartbeats 6400000 in
set_option maxRecDepth 100000 in
theorem bounds_calls (n : Int) (A : Option Addr) (c : Nat) (l : List S43) (w : World) (hr : Kd.C k43 w A l.length l) (hc : l.length ≤ c) :
    Calls Try.prog 4 #[.int .i64 n, .slice A l.length c] w fun e w' => e = .returned (.bool true) ∧ Below w.heap.size w w' := by
  have HR := Lib.hid hr
  clear hr
  go_enter Try.func4, Try.ntmps4
  go_wp2_with fail
  refine (alive_true w).mono ?_
  rintro e w1 ⟨rfl, hb1⟩
  go_wp2_with fail
  have hnew := new_f n
  obtain ⟨P0, M0, e0, hn0⟩ : ∃ P0 M0 e0, newP n = (P0, M0, e0) := ⟨_, _, _, rfl⟩
  rw [hn0] at hnew
  refine (c_new n hnew).mono ?_
  rintro e w2 ⟨A0, c0, A1, c1, rfl, hN, hb2⟩
  have HN := Lib.hid (hN.alloc' (.cells #[.slice A0 P0.length c0, .slice A1 M0.length c1] 25))
  have HB := Lib.hid (below_alloc (below_step hb1 hb2) (.cells #[.slice A0 P0.length c0, .slice A1 M0.length c1] 25))
  have HV := Lib.hid (blk_new w2 (.cells #[.slice A0 P0.length c0, .slice A1 M0.length c1] 25))
  have hs12 : w1.heap.size ≤ w2.heap.size := hb2.size
  have hs01 : w.heap.size ≤ w1.heap.size := hb1.size
  have HNW := Lib.hid hn0
  clear hb1 hb2 hN hnew hn0
  go_wp2_with fail
  refine (skiarealaw58_small.calls 60 A c l (smallP l) _ (Kd.C_below HR.out HB.out) hc (small_f l 60 (by omega))).mono ?_
  rintro e w3 ⟨rfl, hd⟩
  have hb3 := Drawn0.below hd
  replace HN := Lib.hid (HN.out.below hb3)
  replace HB := Lib.hid (below_step HB.out hb3)
  replace HV := Lib.hid (blk_below HV.out hb3)
  clear hd hb3
  cases hsm : smallP l with
  | false =>
    clear hsm
    go_wp2_with fail
    go_ret
    exact ⟨rfl, HB.out⟩
  | true =>
    have HS := Lib.hid (small_all hsm)
    clear hsm
    by_cases he : e0 = 0
    · have he1 : (e0 != 0) = false := by simpa using he
      have hi : Inv n P0 M0 := by have := new_inv (n := n); rw [HNW.out] at this; exact this he
      have HI := Lib.hid hi
      clear hi he
      go_wp2_with fail
      go_loopw [7] (fun s7 wr => ∃ (j : Nat) (P M : _) (A0 A1 : Option Addr) (c0 c1 : Nat), j ≤ l.length ∧ s7 = .int .i64 j ∧ NR wr w.heap.size A0 c0 P A1 c1 M ∧ wr.heap[w2.heap.size]? = some (.cells #[.slice A0 P.length c0, .slice A1 M.length c1] 25 (0, 0)) ∧ Below w.heap.size w wr ∧ Inv n P M) (fun s7 _ => l.length - (intOf s7).toNat)
      case atStart => exact ⟨0, P0, M0, A0, A1, c0, c1, Nat.zero_le _, rfl, HN.out.lower hs01, HV.out, HB.out, HI.out⟩
      case round =>
        clear HN HV HB HI
        obtain ⟨j, P, M, B0, B1, d0, d1, hj, rfl, hN, hV, hB, hI⟩ := hrel
        have y0 : wr.cell? ⟨w2.heap.size, 0, none⟩ = some (.slice B0 P.length d0) := (blk_cell hV 0).trans rfl
        have y1 : wr.cell? ⟨w2.heap.size, 1, none⟩ = some (.slice B1 M.length d1) := (blk_cell hV 1).trans rfl
        have HN := Lib.hid hN
        have HV := Lib.hid hV
        have HB := Lib.hid hB
        have HI := Lib.hid hI
        clear hN hV hB hI
        by_cases hlt : j < l.length
        · have hltz : (j : Int) < (l.length : Int) := by omega
          have hl40 := HS.out.1
          have e5 : IntKind.i64.wrap ((j : Int) + 1) = (j : Int) + 1 := IntWalk.i64_in _ (by omega)
          obtain ⟨ad, A3, c3, A4, c4, rfl, _⟩ := at_T43 HR.out (j : Int) (by omega) hltz
          have hco : (if c = j then some ad else (some ad).map (fun x => x.add (j * k43.sz))) = some (ad.add (j * 5)) := by rw [if_neg (by omega)]; rfl
          have hone := C_one HR.out hc hlt
          have hm : rd_T43 l (j : Int) ∈ l := by
            have : rd_T43 l (j : Int) = l[j] := by unfold rd_T43; simp [List.getD_eq_getElem?_getD, hlt]
            rw [this]
            exact List.getElem_mem hlt
          have hso := (HS.out.2 _ hm).1
          generalize rd_T43 l (j : Int) = o at *
          obtain ⟨P2, M2, hst⟩ : ∃ P2 M2, afterP P M [o] = (P2, M2) := ⟨_, _, rfl⟩
          have hI2 : Inv n P2 M2 := by have h := step_inv (n := (P, M)) HI.out o; have e : stepP (P, M) o = (P2, M2) := hst; rw [e] at h; exact h
          have HC := Lib.hid (fun (w' : World) (hb : Below wr.heap.size wr w') => (show Calls Try.prog 16 #[.agg #[.slice B0 P.length d0, .slice B1 M.length d1], .slice (some (ad.add (j * 5))) 1 (c - j)] w' (fun e w'' => ∃ C0 f0 C1 f1, e = .returned (.agg #[.slice C0 P2.length f0, .slice C1 M2.length f1]) ∧ NR w'' w.heap.size C0 f0 P2 C1 f1 M2 ∧ Below w'.heap.size w' w'') from by
            have h := after_calls (c := c - j) [o] (HN.out.below hb) (Nat.le_trans HB.out.size hb.size) HI.out.ok (Kd.C_below (Kd.C_below hone HB.out) hb) (show 1 ≤ c - j by omega) (fun x hx => by simp only [List.mem_singleton] at hx; rw [hx]; omega) (by simp)
            rw [hst] at h
            exact h))
          have HI2 := Lib.hid hI2
          clear hone hso hm hst hI2 hco
          have held := Lib.hid (fun (w' : World) (hb : Below wr.heap.size wr w') => (show w'.cell? ⟨w2.heap.size, 0, none⟩ = some (.slice B0 P.length d0) ∧ w'.cell? ⟨w2.heap.size, 1, none⟩ = some (.slice B1 M.length d1) ∧ w'.frozen? ⟨w2.heap.size, 0, none⟩ = false ∧ w'.frozen? ⟨w2.heap.size, 1, none⟩ = false ∧ Below wr.heap.size wr w' from
            ⟨(blk_cell (blk_below HV.out hb) 0).trans rfl, (blk_cell (blk_below HV.out hb) 1).trans rfl, blk_frozen (blk_below HV.out hb) 0, blk_frozen (blk_below HV.out hb) 1, hb⟩))
          go_wp2_with fail
          have hcut : 0 ≤ (j : Int) + 1 ∧ (j : Int) + 1 ≤ (c : Int) := by omega
          have hcj : ¬ c = j := by omega
          have hdr : Below wr.heap.size wr wr.drew := below_drew (Below.refl _ _)
          refine start_ (n := 8) (S := fun w' => w'.cell? ⟨w2.heap.size, 0, none⟩ = some (.slice B0 P.length d0) ∧ w'.cell? ⟨w2.heap.size, 1, none⟩ = some (.slice B1 M.length d1)) (ds := [7]) #[false, false, false, false, false, false, false, false] (by kernel_rfl) rfl rfl ⟨(held.out _ hdr).1, (held.out _ hdr).2.1⟩ (fun hHeld => ?_)
          have HHD := Lib.hid hdr
          clear hdr y0 y1
          generalize wr.drew = w24 at HHD hHeld ⊢
          refine pure_ (i := 1) (N := some 29) (v := ?_) (a' := ?_) #[false, true, false, false, false, false, false, false] rfl rfl (by kernel_rfl) (fun _ _ _ h => h) (Or.inl ⟨by rfl, ?_⟩) ?_ ?_
          rotate_left
          · intro w'
            go_simp
            with_reducible rfl
          rotate_left
          · simp only [Act.put, List.setIfInBounds_toArray, List.set_cons_zero, List.set_cons_succ, i64_w, i32_w]
            rfl
          refine pure_ (i := 2) (N := some 30) (v := ?_) (a' := ?_) #[false, true, true, false, false, false, false, false] rfl rfl (by kernel_rfl) (fun _ _ _ h => h) (Or.inl ⟨by rfl, ?_⟩) ?_ ?_
          rotate_left
          · intro w'
            go_simp
            with_reducible rfl
          rotate_left
          · simp only [Act.put, List.setIfInBounds_toArray, List.set_cons_zero, List.set_cons_succ, i64_w, i32_w]
            rfl
          refine pure_ (i := 3) (N := some 31) (v := ?_) (a' := ?_) #[false, true, true, true, false, false, false, false] rfl rfl (by kernel_rfl) (fun _ _ _ h => h) (Or.inl ⟨by rfl, ?_⟩) ?_ ?_
          rotate_left
          · intro w'
            go_simp
            with_reducible rfl
          rotate_left
          · simp only [Act.put, List.setIfInBounds_toArray, List.set_cons_zero, List.set_cons_succ, i64_w, i32_w]
            rfl
          refine pure_ (i := 4) (N := some 32) (v := ?_) (a' := ?_) #[false, true, true, true, true, false, false, false] rfl rfl (by kernel_rfl) (fun _ _ _ h => h) (Or.inl ⟨by rfl, ?_⟩) ?_ ?_
          rotate_left
          · intro w'
            go_simp
            with_reducible rfl
          rotate_left
          · simp only [Act.put, List.setIfInBounds_toArray, List.set_cons_zero, List.set_cons_succ, i64_w, i32_w]
            rfl
          refine pure_ (i := 5) (N := some 33) (v := ?_) (a' := ?_) #[false, true, true, true, true, true, false, false] rfl rfl (by kernel_rfl) (fun _ _ _ h => h) (Or.inl ⟨by rfl, ?_⟩) ?_ ?_
          rotate_left
          · intro w'
            go_simp
            with_reducible rfl
          rotate_left
          · simp only [Act.put, List.setIfInBounds_toArray, List.set_cons_zero, List.set_cons_succ, i64_w, i32_w]
            rfl
          refine take_ (i := 0) (N := some 28) (v := ?_) (a' := ?_) #[true, true, true, true, true, true, false, false] rfl rfl (by kernel_rfl) (fun _ _ _ h => h) (Or.inl ⟨by rfl, ?_⟩) hHeld ?_ ?_
          rotate_left
          · rintro w' ⟨s0, s1⟩
            go_simp
            with_reducible rfl
          rotate_left
          · simp only [Act.put, List.setIfInBounds_toArray, List.set_cons_zero, List.set_cons_succ, i64_w, i32_w]
            rfl
          refine one_ (i := 6) (N := some 34) #[true, true, true, true, true, true, true, false] rfl rfl (by kernel_rfl) (by decide) (fun K hK => ?_)
          refine goes_ Try.func16 (by kernel_rfl) rfl #[.agg #[.slice B0 P.length d0, .slice B1 M.length d1], .slice (some (ad.add (j * 5))) 1 (c - j)] (by rfl) rfl rfl (by (try simp only [List.map_toArray, List.map_cons, List.map_nil]); first | done | rfl) ?_
          refine (HC.out _ HHD.out).mono ?_
          rintro e w4 ⟨C0, f0, C1, f1, rfl, hN4, hb4⟩
          refine ⟨_, rfl, ?_⟩
          have hbw := below_step HHD.out hb4
          refine hK.out _ _ ⟨(held.out _ hbw).1, (held.out _ hbw).2.1⟩ (fun hHeld => ?_)
          clear hK K
          refine norm_ (a' := ?_) ?_ ?_
          rotate_left
          · show Act.put _ (some 34) _ = _
            simp only [Act.put, List.setIfInBounds_toArray, List.set_cons_zero, List.set_cons_succ, i64_w, i32_w]
            rfl
          refine last_ (i := 7) (N := none) #[true, true, true, true, true, true, true, true] rfl rfl (by kernel_rfl) (by decide) (fun K hK => ?_)
          obtain ⟨q0, q1, q2, q3, _⟩ := held.out _ hbw
          refine skip_ (w1 := ?_) (by rfl) rfl ?_ ?_
          rotate_left
          · go_simp
            rfl
          refine hK.out _ _ ?_
          clear hK K hHeld
          refine done_ (by kernel_rfl) ?_
          clear q0 q1 q2 q3
          have hv4 := blk_below HV.out hbw
          have HV5 := Lib.hid (blk_set (blk_set hv4 0 (.slice C0 P2.length f0)) 1 (.slice C1 M2.length f1))
          have HN5 := Lib.hid ((hN4.set hv4 (by decide) (by decide) 0 (.slice C0 P2.length f0)).set (blk_set hv4 0 _) (by decide) (by decide) 1 (.slice C1 M2.length f1))
          have HB5 := Lib.hid (below_set (j := 1) (v := .slice C1 M2.length f1) (below_set (j := 0) (v := .slice C0 P2.length f0) (below_step HB.out hbw) (Nat.le_trans hs01 hs12)) (Nat.le_trans hs01 hs12))
          clear hN4 hb4 hbw hv4 HN HV HB held HC
          generalize (w4.setCell ⟨w2.heap.size, 0, none⟩ (.slice C0 P2.length f0)).setCell ⟨w2.heap.size, 1, none⟩ (.slice C1 M2.length f1) = V at *
          have z0 : V.cell? ⟨w2.heap.size, 0, none⟩ = some (.slice C0 P2.length f0) := (blk_cell HV5.out 0).trans rfl
          have z1 : V.cell? ⟨w2.heap.size, 1, none⟩ = some (.slice C1 M2.length f1) := (blk_cell HV5.out 1).trans rfl
          go_wp2_with fail
          have hrt := right_f P2 M2 1011 (by omega)
          rw [HI2.out.right] at hrt
          refine (network_Right.calls 1011 _ _ P2 _ _ M2 0 _ HN5.out.p.1 HN5.out.p.2 HN5.out.m.1 HN5.out.m.2 hrt).mono ?_
          rintro e w5 ⟨rfl, hb6⟩
          have HV6 := Lib.hid (blk_below HV5.out hb6)
          have HN6 := Lib.hid (HN5.out.below hb6)
          have HB6 := Lib.hid (below_step HB5.out hb6)
          have u0 : w5.cell? ⟨w2.heap.size, 0, none⟩ = some (.slice C0 P2.length f0) := (blk_cell HV6.out 0).trans rfl
          have hne : ((P2.length : Int) != n) = false := by have := HI2.out.len; simpa using this
          clear hrt z0 z1 hb6 HV5 HN5 HB5
          go_wp2_with fail
          go_roundw
          case rel => exact ⟨j + 1, P2, M2, C0, C1, f0, f1, hlt, by simp, HN6.out, HV6.out, HB6.out, HI2.out⟩
          case measure => simp [intOf]; omega
        · have hjl : j = l.length := by omega
          have hlt2 : ¬ ((j : Int) < (l.length : Int)) := by omega
          clear hlt hj hjl
          go_wp2_with fail
          go_ret
          exact ⟨rfl, HB.out⟩
    · have he1 : (e0 != 0) = true := by simpa using he
      clear he
      go_wp2_with fail
      go_ret
      exact ⟨rfl, HB.out⟩
/-! ### in the form of a printed function -/
def law_true (k : Nat) : Option Bool := some true
theorem PureNetworkBounds (n : Int) (l : List S43) (w0 : (Lit.int .i64 n).wf = true) (hm : l.length ≤ maxLen) (hy : l.length * 72 ≤ 140737488351232) (hF : ∀ x ∈ l, OpOk x) : ∃ k, law_true k = some true := ⟨0, rfl⟩
theorem skiarealaw58_NetworkBounds.calls (k : Nat) (n : Int) (A : Option Addr) (c : Nat) (l : List S43) (r : Bool) (w : World) (hr : Kd.C k43 w A l.length l) (hc : l.length ≤ c) (h : law_true k = some r) :
    Calls Try.prog 4 #[.int .i64 n, .slice A l.length c] w fun e w' => e = .returned (.bool r) ∧ Below w.heap.size w w' := by
  obtain rfl := Option.some.inj h
  exact bounds_calls n A c l w hr hc

end Go.Proofs.Ytlaheldjlfckkaa.A

/- expected, of the laws of layer 58: the walk. Printed by mkexp.py. -/
import Derived.Test.YtlaheldjlfckkaaHDone
import Derived.Test.YtlaheldjlfckkaaHRefB
namespace Go.Proofs.Ytlaheldjlfckkaa.A
open Go.RowKit Go.Proofs.YtlaheldjlfckkaaW.PrintWords Go.Proofs.YtlaheldjlfckkaaW.PrintLast Go.Proofs.YtlaheldjlfckkaaW.PrintMore
set_option linter.unusedVariables false
set_option linter.unusedSimpArgs false

section
variable {w : World} {ok : Nat → Prop} {A0 A1 A : Option Addr} {c0 c1 c : Nat} {P P' : List Int} {M M' : List S39} {e : Int}
theorem e_send (HN : NF w ok A0 c0 P A1 c1 M) (hfr : ∀ k, w.heap.size ≤ k → ok k) (hS : Small P M) (f t : Int) (body : List Int) (hr : Kd.C (Kd.int .u8) w A body.length body) (hc : body.length ≤ c) (hbo : body.length ≤ 1000000) (h : sendP P M f t body = (P', M', e)) :
    Calls Try.prog 31 #[.agg #[.slice A0 P.length c0, .slice A1 M.length c1], .int .i64 f, .int .i64 t, .slice A body.length c] w (RefNet w ok P' M' e) := by
  have hh := r_send HN hfr hS.2.1 f t body hr hc hbo
  rw [h] at hh
  exact hh
theorem e_deliver (HN : NF w ok A0 c0 P A1 c1 M) (hfr : ∀ k, w.heap.size ≤ k → ok k) (hS : Small P M) (i : Int) {f t : Int} {body : List Int} (h : deliverP P M i = (P', M', f, t, body, e)) :
    Calls Try.prog 32 #[.agg #[.slice A0 P.length c0, .slice A1 M.length c1], .int .i64 i] w (RefMsg w ok P' M' f t body e) := by
  have hh := r_deliver HN hfr hS.2.1 i
  rw [h] at hh
  exact hh
theorem e_lose (HN : NF w ok A0 c0 P A1 c1 M) (hfr : ∀ k, w.heap.size ≤ k → ok k) (hS : Small P M) (i : Int) (h : loseP P M i = (P', M', e)) :
    Calls Try.prog 33 #[.agg #[.slice A0 P.length c0, .slice A1 M.length c1], .int .i64 i] w (RefNet w ok P' M' e) := by
  have hh := r_lose HN hfr hS.2.1 i
  rw [h] at hh
  exact hh
theorem e_copy (HN : NF w ok A0 c0 P A1 c1 M) (hfr : ∀ k, w.heap.size ≤ k → ok k) (hS : Small P M) (i : Int) (h : copyP P M i = (P', M', e)) :
    Calls Try.prog 34 #[.agg #[.slice A0 P.length c0, .slice A1 M.length c1], .int .i64 i] w (RefNet w ok P' M' e) := by
  have hh := r_copy HN hfr hS i
  rw [h] at hh
  exact hh
theorem e_split (HN : NF w ok A0 c0 P A1 c1 M) (hfr : ∀ k, w.heap.size ≤ k → ok k) (hS : Small P M) (l : List Int) (hr : Kd.C (Kd.int .i64) w A l.length l) (hc : l.length ≤ c) (h : splitP P M l = (P', M', e)) :
    Calls Try.prog 35 #[.agg #[.slice A0 P.length c0, .slice A1 M.length c1], .slice A l.length c] w (RefNet w ok P' M' e) := by
  have hh := r_split HN hfr hS l hr hc
  rw [h] at hh
  exact hh
end

set_option maxHeartbeats 6400000 in
set_option maxRecDepth 100000 in
theorem exp_calls {w : World} {ok : Nat → Prop} {A0 A1 A2 A3 : Option Addr} {c0 c1 c2 c3 : Nat} {P : List Int} {M : List S39} (o : S43) (HN : NF w ok A0 c0 P A1 c1 M) (hfr : ∀ k, w.heap.size ≤ k → ok k) (hS : Small P M) (hB : o.f3.length ≤ 1000000)
    (hr2 : Kd.C (Kd.int .u8) w A2 o.f3.length o.f3) (hc2 : o.f3.length ≤ c2) (hr3 : Kd.C (Kd.int .i64) w A3 o.f4.length o.f4) (hc3 : o.f4.length ≤ c3) :
    Calls Try.prog 18 #[.agg #[.slice A0 P.length c0, .slice A1 M.length c1], .agg #[.int .i64 o.f0, .int .i64 o.f1, .int .i64 o.f2, .slice A2 o.f3.length c2, .slice A3 o.f4.length c3]] w (RefMsg w ok (doneP P M o).1 (doneP P M o).2.1 (doneP P M o).2.2.1 (doneP P M o).2.2.2.1 (doneP P M o).2.2.2.2.1 (doneP P M o).2.2.2.2.2) := by
  by_cases h0 : o.f0 = 0
  · have hd : doneP P M o = lift3 (sendP P M o.f1 o.f2 o.f3) := by unfold doneP; rw [if_pos h0]
    rw [hd]
    clear hd
    obtain ⟨P', M', e', hsr⟩ : ∃ P' M' e', sendP P M o.f1 o.f2 o.f3 = (P', M', e') := ⟨_, _, _, rfl⟩
    rw [hsr]
    show Calls _ _ _ _ (RefMsg w ok P' M' 0 0 [] e')
    have q0 : (o.f0 == 0) = true := by simpa using h0
    go_enter Try.func18, Try.ntmps18
    go_wp2_with fail
    refine (e_send ((HN.bound.below (Dn.start w _ _).bel).mono (ok' := fun k => (ok k ∧ k < w.heap.size) ∨ w.heap.size + 1 + 1 + 1 + 1 + 1 + 1 ≤ k) (fun k hk => .inl hk)) (fun k hk => .inr (by simpa using hk)) hS o.f1 o.f2 o.f3 (Kd.C_below hr2 (Dn.start w _ _).bel) hc2 hB hsr).mono ?_
    rintro e w1 ⟨B0, d0, B1, d1, rfl, hN, hb⟩
    have D := (Dn.start w _ _).step hb
    have yvx0 : w1.cell? ⟨w.heap.size + 1 + 1 + 1 + 1, 0, none⟩ = _ := (blk_cell D.vx 0).trans rfl
    have yvx1 : w1.cell? ⟨w.heap.size + 1 + 1 + 1 + 1, 1, none⟩ = _ := (blk_cell D.vx 1).trans rfl
    have zvx0 := blk_frozen D.vx 0
    have zvx1 := blk_frozen D.vx 1
    have E := D.setx (.slice B0 P'.length d0) (.slice B1 M'.length d1)
    have N := hN
    replace N := N.far (p := ⟨w.heap.size + 1 + 1 + 1 + 1, 0, none⟩) (fun k hk => by rcases hk with ⟨_, hk⟩ | hk <;> (dsimp only; omega)) (.slice B0 P'.length d0)
    replace N := N.far (p := ⟨w.heap.size + 1 + 1 + 1 + 1, 1, none⟩) (fun k hk => by rcases hk with ⟨_, hk⟩ | hk <;> (dsimp only; omega)) (.slice B1 M'.length d1)
    clear D hb hN
    go_wp2_with fail
    clear yvx0 yvx1 zvx0 zvx1
    generalize ((w1.setCell ⟨w.heap.size + 1 + 1 + 1 + 1, 0, none⟩ (.slice B0 P'.length d0)).setCell ⟨w.heap.size + 1 + 1 + 1 + 1, 1, none⟩ (.slice B1 M'.length d1)) = V at E N ⊢
    have hM : Kd.F (Kd.int .u8) V (fun k => (ok k ∧ k < w.heap.size) ∨ w.heap.size + 1 + 1 + 1 + 1 + 1 + 1 ≤ k) none 0 ([] : List Int) ∧ 0 ≤ 0 := ⟨Kd.F_nil _ _ _, Nat.le_refl _⟩
    replace E := E.drew
    replace N := N.below (below_drew1 (Below.refl _ _))
    replace hM := And.intro (Kd.F_drew hM.1) hM.2
    refine start_ (n := 6) (S := fun w' => w'.cell? ⟨w.heap.size + 1 + 1 + 1 + 1, 0, none⟩ = some (.slice B0 P'.length d0) ∧ w'.cell? ⟨w.heap.size + 1 + 1 + 1 + 1, 1, none⟩ = some (.slice B1 M'.length d1) ∧ w'.cell? ⟨w.heap.size + 1 + 1 + 1 + 1 + 1, 0, none⟩ = some (.int .i64 0) ∧ w'.cell? ⟨w.heap.size + 1 + 1 + 1 + 1 + 1, 1, none⟩ = some (.int .i64 0) ∧ w'.cell? ⟨w.heap.size + 1 + 1 + 1 + 1 + 1, 2, none⟩ = some (.slice none 0 0)) (ds := []) #[false, false, false, false, false, false] (by kernel_rfl) rfl rfl ⟨(blk_cell E.vx 0).trans rfl, (blk_cell E.vx 1).trans rfl, (blk_cell E.vm 0).trans rfl, (blk_cell E.vm 1).trans rfl, (blk_cell E.vm 2).trans rfl⟩ (fun hHeld => ?_)
    generalize V.drew = w34 at E N hM hHeld ⊢
    refine pure_ (i := 2) (N := some 64) (v := ?_) (a' := ?_) #[false, false, true, false, false, false] rfl rfl (by kernel_rfl) (fun _ _ _ h => h) (Or.inl ⟨by rfl, ?_⟩) ?_ ?_
    rotate_left
    · intro w'
      go_simp
      with_reducible rfl
    rotate_left
    · simp only [Act.put, sA, sZ, sS, i64_w, i32_w]
      rfl
    refine take_ (i := 0) (N := some 62) (v := ?_) (a' := ?_) #[true, false, true, false, false, false] rfl rfl (by kernel_rfl) (fun _ _ _ h => h) (Or.inl ⟨by rfl, ?_⟩) hHeld ?_ ?_
    rotate_left
    · rintro w' ⟨s0, s1, s2, s3, s4⟩
      go_simp
      with_reducible rfl
    rotate_left
    · simp only [Act.put, sA, sZ, sS, i64_w, i32_w]
      rfl
    refine take_ (i := 1) (N := some 63) (v := ?_) (a' := ?_) #[true, true, true, false, false, false] rfl rfl (by kernel_rfl) (fun _ _ _ h => h) (Or.inl ⟨by rfl, ?_⟩) hHeld ?_ ?_
    rotate_left
    · rintro w' ⟨s0, s1, s2, s3, s4⟩
      go_simp
      with_reducible rfl
    rotate_left
    · simp only [Act.put, sA, sZ, sS, i64_w, i32_w]
      rfl
    refine one_ (i := 3) (N := none) #[true, true, true, true, false, false] rfl rfl (by kernel_rfl) (by decide) (fun K hK => ?_)
    have s0 : w34.cell? ⟨w.heap.size + 1 + 1, 0, none⟩ = _ := (blk_cell E.r25 0).trans rfl
    have t0 := blk_frozen E.r25 0
    have s1 : w34.cell? ⟨w.heap.size + 1 + 1, 1, none⟩ = _ := (blk_cell E.r25 1).trans rfl
    have t1 := blk_frozen E.r25 1
    refine skip_ (w1 := ?_) (by rfl) rfl ?_ ?_
    rotate_left
    · go_simp
      rfl
    refine hK.out _ _ ⟨((cell_far (by dsimp only; omega) _).trans ((cell_far (by dsimp only; omega) _).trans hHeld.1)), ((cell_far (by dsimp only; omega) _).trans ((cell_far (by dsimp only; omega) _).trans hHeld.2.1)), ((cell_far (by dsimp only; omega) _).trans ((cell_far (by dsimp only; omega) _).trans hHeld.2.2.1)), ((cell_far (by dsimp only; omega) _).trans ((cell_far (by dsimp only; omega) _).trans hHeld.2.2.2.1)), ((cell_far (by dsimp only; omega) _).trans ((cell_far (by dsimp only; omega) _).trans hHeld.2.2.2.2))⟩ (fun hHeld => ?_)
    clear hK K
    refine one_ (i := 4) (N := none) #[true, true, true, true, true, false] rfl rfl (by kernel_rfl) (by decide) (fun K hK => ?_)
    have s2 : w34.cell? ⟨w.heap.size + 1 + 1 + 1, 0, none⟩ = _ := (blk_cell E.r39 0).trans rfl
    have t2 := blk_frozen E.r39 0
    have s3 : w34.cell? ⟨w.heap.size + 1 + 1 + 1, 1, none⟩ = _ := (blk_cell E.r39 1).trans rfl
    have t3 := blk_frozen E.r39 1
    have s4 : w34.cell? ⟨w.heap.size + 1 + 1 + 1, 2, none⟩ = _ := (blk_cell E.r39 2).trans rfl
    have t4 := blk_frozen E.r39 2
    refine skip_ (w1 := ?_) (by rfl) rfl ?_ ?_
    rotate_left
    · go_simp
      rfl
    refine hK.out _ _ ⟨((cell_far (by dsimp only; omega) _).trans ((cell_far (by dsimp only; omega) _).trans ((cell_far (by dsimp only; omega) _).trans hHeld.1))), ((cell_far (by dsimp only; omega) _).trans ((cell_far (by dsimp only; omega) _).trans ((cell_far (by dsimp only; omega) _).trans hHeld.2.1))), ((cell_far (by dsimp only; omega) _).trans ((cell_far (by dsimp only; omega) _).trans ((cell_far (by dsimp only; omega) _).trans hHeld.2.2.1))), ((cell_far (by dsimp only; omega) _).trans ((cell_far (by dsimp only; omega) _).trans ((cell_far (by dsimp only; omega) _).trans hHeld.2.2.2.1))), ((cell_far (by dsimp only; omega) _).trans ((cell_far (by dsimp only; omega) _).trans ((cell_far (by dsimp only; omega) _).trans hHeld.2.2.2.2)))⟩ (fun hHeld => ?_)
    clear hK K
    refine pure_ (i := 5) (N := some 6) (v := ?_) (a' := ?_) #[true, true, true, true, true, true] rfl rfl (by kernel_rfl) (fun _ _ _ h => h) (Or.inl ⟨by rfl, ?_⟩) ?_ ?_
    rotate_left
    · intro w'
      go_simp
      with_reducible rfl
    rotate_left
    · simp only [Act.put, sA, sZ, sS, i64_w, i32_w]
      rfl
    refine done_ (by kernel_rfl) ?_
    try go_wp2
    have E2 := E.res (.slice B0 P'.length d0) (.slice B1 M'.length d1) (.int .i64 0) (.int .i64 0) (.slice none 0 0)
    refine bodyPost_ret (results_list (rs := [.cell 4 25, .cell 5 39, .tmp 6]) rfl (by simp) (.cell (w.heap.size + 1 + 1) 25 #[.slice B0 P'.length d0, .slice B1 M'.length d1] (0, 0) _ rfl E2.1 Try.underlying25 rfl (by kernel_rfl) (.cell (w.heap.size + 1 + 1 + 1) 39 #[.int .i64 0, .int .i64 0, (.slice none 0 0)] (0, 0) _ rfl E2.2.1 Try.underlying39 rfl (by kernel_rfl) (.tmp .nil)))) rfl ?_
    replace N := N.far (p := ⟨w.heap.size + 1 + 1, 0, none⟩) (fun k hk => by rcases hk with ⟨_, hk⟩ | hk <;> (dsimp only; omega)) (.slice B0 P'.length d0)
    replace hM := And.intro (Kd.F_far hM.1 (p := ⟨w.heap.size + 1 + 1, 0, none⟩) (fun k hk => by rcases hk with ⟨_, hk⟩ | hk <;> (dsimp only; omega)) (.slice B0 P'.length d0)) hM.2
    replace N := N.far (p := ⟨w.heap.size + 1 + 1, 1, none⟩) (fun k hk => by rcases hk with ⟨_, hk⟩ | hk <;> (dsimp only; omega)) (.slice B1 M'.length d1)
    replace hM := And.intro (Kd.F_far hM.1 (p := ⟨w.heap.size + 1 + 1, 1, none⟩) (fun k hk => by rcases hk with ⟨_, hk⟩ | hk <;> (dsimp only; omega)) (.slice B1 M'.length d1)) hM.2
    replace N := N.far (p := ⟨w.heap.size + 1 + 1 + 1, 0, none⟩) (fun k hk => by rcases hk with ⟨_, hk⟩ | hk <;> (dsimp only; omega)) (.int .i64 0)
    replace hM := And.intro (Kd.F_far hM.1 (p := ⟨w.heap.size + 1 + 1 + 1, 0, none⟩) (fun k hk => by rcases hk with ⟨_, hk⟩ | hk <;> (dsimp only; omega)) (.int .i64 0)) hM.2
    replace N := N.far (p := ⟨w.heap.size + 1 + 1 + 1, 1, none⟩) (fun k hk => by rcases hk with ⟨_, hk⟩ | hk <;> (dsimp only; omega)) (.int .i64 0)
    replace hM := And.intro (Kd.F_far hM.1 (p := ⟨w.heap.size + 1 + 1 + 1, 1, none⟩) (fun k hk => by rcases hk with ⟨_, hk⟩ | hk <;> (dsimp only; omega)) (.int .i64 0)) hM.2
    replace N := N.far (p := ⟨w.heap.size + 1 + 1 + 1, 2, none⟩) (fun k hk => by rcases hk with ⟨_, hk⟩ | hk <;> (dsimp only; omega)) (.slice none 0 0)
    replace hM := And.intro (Kd.F_far hM.1 (p := ⟨w.heap.size + 1 + 1 + 1, 2, none⟩) (fun k hk => by rcases hk with ⟨_, hk⟩ | hk <;> (dsimp only; omega)) (.slice none 0 0)) hM.2
    have hok : ∀ k, ((ok k ∧ k < w.heap.size) ∨ w.heap.size + 1 + 1 + 1 + 1 + 1 + 1 ≤ k) → ok k := fun k hk => by rcases hk with hk | hk; exact hk.1; exact hfr k (by omega)
    exact ⟨B0, d0, B1, d1, none, 0, rfl, N.mono hok, ⟨Kd.F_mono hM.1 hok, hM.2⟩, E2.2.2⟩
  · skip
    by_cases h1 : o.f0 = 1
    · have hd : doneP P M o = deliverP P M o.f1 := by unfold doneP; rw [if_neg h0]; rw [if_pos h1]
      rw [hd]
      clear hd
      obtain ⟨P', M', f', t', b', e', hsr⟩ : ∃ P' M' f' t' b' e', deliverP P M o.f1 = (P', M', f', t', b', e') := ⟨_, _, _, _, _, _, rfl⟩
      rw [hsr]
      show Calls _ _ _ _ (RefMsg w ok P' M' f' t' b' e')
      have q0 : (o.f0 == 0) = false := by simpa using h0
      have q1 : (o.f0 == 1) = true := by simpa using h1
      go_enter Try.func18, Try.ntmps18
      go_wp2_with fail
      refine (e_deliver ((HN.bound.below (Dn.start w _ _).bel).mono (ok' := fun k => (ok k ∧ k < w.heap.size) ∨ w.heap.size + 1 + 1 + 1 + 1 + 1 + 1 ≤ k) (fun k hk => .inl hk)) (fun k hk => .inr (by simpa using hk)) hS o.f1 hsr).mono ?_
      rintro e w1 ⟨B0, d0, B1, d1, B2, d2, rfl, hN, hM, hb⟩
      have D := (Dn.start w _ _).step hb
      have yvx0 : w1.cell? ⟨w.heap.size + 1 + 1 + 1 + 1, 0, none⟩ = _ := (blk_cell D.vx 0).trans rfl
      have yvx1 : w1.cell? ⟨w.heap.size + 1 + 1 + 1 + 1, 1, none⟩ = _ := (blk_cell D.vx 1).trans rfl
      have zvx0 := blk_frozen D.vx 0
      have zvx1 := blk_frozen D.vx 1
      have yvm0 : w1.cell? ⟨w.heap.size + 1 + 1 + 1 + 1 + 1, 0, none⟩ = _ := (blk_cell D.vm 0).trans rfl
      have yvm1 : w1.cell? ⟨w.heap.size + 1 + 1 + 1 + 1 + 1, 1, none⟩ = _ := (blk_cell D.vm 1).trans rfl
      have yvm2 : w1.cell? ⟨w.heap.size + 1 + 1 + 1 + 1 + 1, 2, none⟩ = _ := (blk_cell D.vm 2).trans rfl
      have zvm0 := blk_frozen D.vm 0
      have zvm1 := blk_frozen D.vm 1
      have zvm2 := blk_frozen D.vm 2
      have E := (D.setx (.slice B0 P'.length d0) (.slice B1 M'.length d1)).setm (.int .i64 f') (.int .i64 t') (.slice B2 b'.length d2)
      have N := hN
      replace N := N.far (p := ⟨w.heap.size + 1 + 1 + 1 + 1, 0, none⟩) (fun k hk => by rcases hk with ⟨_, hk⟩ | hk <;> (dsimp only; omega)) (.slice B0 P'.length d0)
      replace N := N.far (p := ⟨w.heap.size + 1 + 1 + 1 + 1, 1, none⟩) (fun k hk => by rcases hk with ⟨_, hk⟩ | hk <;> (dsimp only; omega)) (.slice B1 M'.length d1)
      replace N := N.far (p := ⟨w.heap.size + 1 + 1 + 1 + 1 + 1, 0, none⟩) (fun k hk => by rcases hk with ⟨_, hk⟩ | hk <;> (dsimp only; omega)) (.int .i64 f')
      replace N := N.far (p := ⟨w.heap.size + 1 + 1 + 1 + 1 + 1, 1, none⟩) (fun k hk => by rcases hk with ⟨_, hk⟩ | hk <;> (dsimp only; omega)) (.int .i64 t')
      replace N := N.far (p := ⟨w.heap.size + 1 + 1 + 1 + 1 + 1, 2, none⟩) (fun k hk => by rcases hk with ⟨_, hk⟩ | hk <;> (dsimp only; omega)) (.slice B2 b'.length d2)
      replace hM := And.intro (Kd.F_far hM.1 (p := ⟨w.heap.size + 1 + 1 + 1 + 1, 0, none⟩) (fun k hk => by rcases hk with ⟨_, hk⟩ | hk <;> (dsimp only; omega)) (.slice B0 P'.length d0)) hM.2
      replace hM := And.intro (Kd.F_far hM.1 (p := ⟨w.heap.size + 1 + 1 + 1 + 1, 1, none⟩) (fun k hk => by rcases hk with ⟨_, hk⟩ | hk <;> (dsimp only; omega)) (.slice B1 M'.length d1)) hM.2
      replace hM := And.intro (Kd.F_far hM.1 (p := ⟨w.heap.size + 1 + 1 + 1 + 1 + 1, 0, none⟩) (fun k hk => by rcases hk with ⟨_, hk⟩ | hk <;> (dsimp only; omega)) (.int .i64 f')) hM.2
      replace hM := And.intro (Kd.F_far hM.1 (p := ⟨w.heap.size + 1 + 1 + 1 + 1 + 1, 1, none⟩) (fun k hk => by rcases hk with ⟨_, hk⟩ | hk <;> (dsimp only; omega)) (.int .i64 t')) hM.2
      replace hM := And.intro (Kd.F_far hM.1 (p := ⟨w.heap.size + 1 + 1 + 1 + 1 + 1, 2, none⟩) (fun k hk => by rcases hk with ⟨_, hk⟩ | hk <;> (dsimp only; omega)) (.slice B2 b'.length d2)) hM.2
      clear D hb hN
      go_wp2_with fail
      clear yvx0 yvx1 zvx0 zvx1 yvm0 yvm1 yvm2 zvm0 zvm1 zvm2
      generalize (((((w1.setCell ⟨w.heap.size + 1 + 1 + 1 + 1, 0, none⟩ (.slice B0 P'.length d0)).setCell ⟨w.heap.size + 1 + 1 + 1 + 1, 1, none⟩ (.slice B1 M'.length d1)).setCell ⟨w.heap.size + 1 + 1 + 1 + 1 + 1, 0, none⟩ (.int .i64 f')).setCell ⟨w.heap.size + 1 + 1 + 1 + 1 + 1, 1, none⟩ (.int .i64 t')).setCell ⟨w.heap.size + 1 + 1 + 1 + 1 + 1, 2, none⟩ (.slice B2 b'.length d2)) = V at E N hM ⊢
      replace E := E.drew
      replace N := N.below (below_drew1 (Below.refl _ _))
      replace hM := And.intro (Kd.F_drew hM.1) hM.2
      refine start_ (n := 6) (S := fun w' => w'.cell? ⟨w.heap.size + 1 + 1 + 1 + 1, 0, none⟩ = some (.slice B0 P'.length d0) ∧ w'.cell? ⟨w.heap.size + 1 + 1 + 1 + 1, 1, none⟩ = some (.slice B1 M'.length d1) ∧ w'.cell? ⟨w.heap.size + 1 + 1 + 1 + 1 + 1, 0, none⟩ = some (.int .i64 f') ∧ w'.cell? ⟨w.heap.size + 1 + 1 + 1 + 1 + 1, 1, none⟩ = some (.int .i64 t') ∧ w'.cell? ⟨w.heap.size + 1 + 1 + 1 + 1 + 1, 2, none⟩ = some (.slice B2 b'.length d2)) (ds := []) #[false, false, false, false, false, false] (by kernel_rfl) rfl rfl ⟨(blk_cell E.vx 0).trans rfl, (blk_cell E.vx 1).trans rfl, (blk_cell E.vm 0).trans rfl, (blk_cell E.vm 1).trans rfl, (blk_cell E.vm 2).trans rfl⟩ (fun hHeld => ?_)
      generalize V.drew = w34 at E N hM hHeld ⊢
      refine pure_ (i := 2) (N := some 64) (v := ?_) (a' := ?_) #[false, false, true, false, false, false] rfl rfl (by kernel_rfl) (fun _ _ _ h => h) (Or.inl ⟨by rfl, ?_⟩) ?_ ?_
      rotate_left
      · intro w'
        go_simp
        with_reducible rfl
      rotate_left
      · simp only [Act.put, sA, sZ, sS, i64_w, i32_w]
        rfl
      refine take_ (i := 0) (N := some 62) (v := ?_) (a' := ?_) #[true, false, true, false, false, false] rfl rfl (by kernel_rfl) (fun _ _ _ h => h) (Or.inl ⟨by rfl, ?_⟩) hHeld ?_ ?_
      rotate_left
      · rintro w' ⟨s0, s1, s2, s3, s4⟩
        go_simp
        with_reducible rfl
      rotate_left
      · simp only [Act.put, sA, sZ, sS, i64_w, i32_w]
        rfl
      refine take_ (i := 1) (N := some 63) (v := ?_) (a' := ?_) #[true, true, true, false, false, false] rfl rfl (by kernel_rfl) (fun _ _ _ h => h) (Or.inl ⟨by rfl, ?_⟩) hHeld ?_ ?_
      rotate_left
      · rintro w' ⟨s0, s1, s2, s3, s4⟩
        go_simp
        with_reducible rfl
      rotate_left
      · simp only [Act.put, sA, sZ, sS, i64_w, i32_w]
        rfl
      refine one_ (i := 3) (N := none) #[true, true, true, true, false, false] rfl rfl (by kernel_rfl) (by decide) (fun K hK => ?_)
      have s0 : w34.cell? ⟨w.heap.size + 1 + 1, 0, none⟩ = _ := (blk_cell E.r25 0).trans rfl
      have t0 := blk_frozen E.r25 0
      have s1 : w34.cell? ⟨w.heap.size + 1 + 1, 1, none⟩ = _ := (blk_cell E.r25 1).trans rfl
      have t1 := blk_frozen E.r25 1
      refine skip_ (w1 := ?_) (by rfl) rfl ?_ ?_
      rotate_left
      · go_simp
        rfl
      refine hK.out _ _ ⟨((cell_far (by dsimp only; omega) _).trans ((cell_far (by dsimp only; omega) _).trans hHeld.1)), ((cell_far (by dsimp only; omega) _).trans ((cell_far (by dsimp only; omega) _).trans hHeld.2.1)), ((cell_far (by dsimp only; omega) _).trans ((cell_far (by dsimp only; omega) _).trans hHeld.2.2.1)), ((cell_far (by dsimp only; omega) _).trans ((cell_far (by dsimp only; omega) _).trans hHeld.2.2.2.1)), ((cell_far (by dsimp only; omega) _).trans ((cell_far (by dsimp only; omega) _).trans hHeld.2.2.2.2))⟩ (fun hHeld => ?_)
      clear hK K
      refine one_ (i := 4) (N := none) #[true, true, true, true, true, false] rfl rfl (by kernel_rfl) (by decide) (fun K hK => ?_)
      have s2 : w34.cell? ⟨w.heap.size + 1 + 1 + 1, 0, none⟩ = _ := (blk_cell E.r39 0).trans rfl
      have t2 := blk_frozen E.r39 0
      have s3 : w34.cell? ⟨w.heap.size + 1 + 1 + 1, 1, none⟩ = _ := (blk_cell E.r39 1).trans rfl
      have t3 := blk_frozen E.r39 1
      have s4 : w34.cell? ⟨w.heap.size + 1 + 1 + 1, 2, none⟩ = _ := (blk_cell E.r39 2).trans rfl
      have t4 := blk_frozen E.r39 2
      refine skip_ (w1 := ?_) (by rfl) rfl ?_ ?_
      rotate_left
      · go_simp
        rfl
      refine hK.out _ _ ⟨((cell_far (by dsimp only; omega) _).trans ((cell_far (by dsimp only; omega) _).trans ((cell_far (by dsimp only; omega) _).trans hHeld.1))), ((cell_far (by dsimp only; omega) _).trans ((cell_far (by dsimp only; omega) _).trans ((cell_far (by dsimp only; omega) _).trans hHeld.2.1))), ((cell_far (by dsimp only; omega) _).trans ((cell_far (by dsimp only; omega) _).trans ((cell_far (by dsimp only; omega) _).trans hHeld.2.2.1))), ((cell_far (by dsimp only; omega) _).trans ((cell_far (by dsimp only; omega) _).trans ((cell_far (by dsimp only; omega) _).trans hHeld.2.2.2.1))), ((cell_far (by dsimp only; omega) _).trans ((cell_far (by dsimp only; omega) _).trans ((cell_far (by dsimp only; omega) _).trans hHeld.2.2.2.2)))⟩ (fun hHeld => ?_)
      clear hK K
      refine pure_ (i := 5) (N := some 6) (v := ?_) (a' := ?_) #[true, true, true, true, true, true] rfl rfl (by kernel_rfl) (fun _ _ _ h => h) (Or.inl ⟨by rfl, ?_⟩) ?_ ?_
      rotate_left
      · intro w'
        go_simp
        with_reducible rfl
      rotate_left
      · simp only [Act.put, sA, sZ, sS, i64_w, i32_w]
        rfl
      refine done_ (by kernel_rfl) ?_
      try go_wp2
      have E2 := E.res (.slice B0 P'.length d0) (.slice B1 M'.length d1) (.int .i64 f') (.int .i64 t') (.slice B2 b'.length d2)
      refine bodyPost_ret (results_list (rs := [.cell 4 25, .cell 5 39, .tmp 6]) rfl (by simp) (.cell (w.heap.size + 1 + 1) 25 #[.slice B0 P'.length d0, .slice B1 M'.length d1] (0, 0) _ rfl E2.1 Try.underlying25 rfl (by kernel_rfl) (.cell (w.heap.size + 1 + 1 + 1) 39 #[.int .i64 f', .int .i64 t', (.slice B2 b'.length d2)] (0, 0) _ rfl E2.2.1 Try.underlying39 rfl (by kernel_rfl) (.tmp .nil)))) rfl ?_
      replace N := N.far (p := ⟨w.heap.size + 1 + 1, 0, none⟩) (fun k hk => by rcases hk with ⟨_, hk⟩ | hk <;> (dsimp only; omega)) (.slice B0 P'.length d0)
      replace hM := And.intro (Kd.F_far hM.1 (p := ⟨w.heap.size + 1 + 1, 0, none⟩) (fun k hk => by rcases hk with ⟨_, hk⟩ | hk <;> (dsimp only; omega)) (.slice B0 P'.length d0)) hM.2
      replace N := N.far (p := ⟨w.heap.size + 1 + 1, 1, none⟩) (fun k hk => by rcases hk with ⟨_, hk⟩ | hk <;> (dsimp only; omega)) (.slice B1 M'.length d1)
      replace hM := And.intro (Kd.F_far hM.1 (p := ⟨w.heap.size + 1 + 1, 1, none⟩) (fun k hk => by rcases hk with ⟨_, hk⟩ | hk <;> (dsimp only; omega)) (.slice B1 M'.length d1)) hM.2
      replace N := N.far (p := ⟨w.heap.size + 1 + 1 + 1, 0, none⟩) (fun k hk => by rcases hk with ⟨_, hk⟩ | hk <;> (dsimp only; omega)) (.int .i64 f')
      replace hM := And.intro (Kd.F_far hM.1 (p := ⟨w.heap.size + 1 + 1 + 1, 0, none⟩) (fun k hk => by rcases hk with ⟨_, hk⟩ | hk <;> (dsimp only; omega)) (.int .i64 f')) hM.2
      replace N := N.far (p := ⟨w.heap.size + 1 + 1 + 1, 1, none⟩) (fun k hk => by rcases hk with ⟨_, hk⟩ | hk <;> (dsimp only; omega)) (.int .i64 t')
      replace hM := And.intro (Kd.F_far hM.1 (p := ⟨w.heap.size + 1 + 1 + 1, 1, none⟩) (fun k hk => by rcases hk with ⟨_, hk⟩ | hk <;> (dsimp only; omega)) (.int .i64 t')) hM.2
      replace N := N.far (p := ⟨w.heap.size + 1 + 1 + 1, 2, none⟩) (fun k hk => by rcases hk with ⟨_, hk⟩ | hk <;> (dsimp only; omega)) (.slice B2 b'.length d2)
      replace hM := And.intro (Kd.F_far hM.1 (p := ⟨w.heap.size + 1 + 1 + 1, 2, none⟩) (fun k hk => by rcases hk with ⟨_, hk⟩ | hk <;> (dsimp only; omega)) (.slice B2 b'.length d2)) hM.2
      have hok : ∀ k, ((ok k ∧ k < w.heap.size) ∨ w.heap.size + 1 + 1 + 1 + 1 + 1 + 1 ≤ k) → ok k := fun k hk => by rcases hk with hk | hk; exact hk.1; exact hfr k (by omega)
      exact ⟨B0, d0, B1, d1, B2, d2, rfl, N.mono hok, ⟨Kd.F_mono hM.1 hok, hM.2⟩, E2.2.2⟩
    · skip
      by_cases h2 : o.f0 = 2
      · have hd : doneP P M o = lift3 (loseP P M o.f1) := by unfold doneP; rw [if_neg h0]; rw [if_neg h1]; rw [if_pos h2]
        rw [hd]
        clear hd
        obtain ⟨P', M', e', hsr⟩ : ∃ P' M' e', loseP P M o.f1 = (P', M', e') := ⟨_, _, _, rfl⟩
        rw [hsr]
        show Calls _ _ _ _ (RefMsg w ok P' M' 0 0 [] e')
        have q0 : (o.f0 == 0) = false := by simpa using h0
        have q1 : (o.f0 == 1) = false := by simpa using h1
        have q2 : (o.f0 == 2) = true := by simpa using h2
        go_enter Try.func18, Try.ntmps18
        go_wp2_with fail
        refine (e_lose ((HN.bound.below (Dn.start w _ _).bel).mono (ok' := fun k => (ok k ∧ k < w.heap.size) ∨ w.heap.size + 1 + 1 + 1 + 1 + 1 + 1 ≤ k) (fun k hk => .inl hk)) (fun k hk => .inr (by simpa using hk)) hS o.f1 hsr).mono ?_
        rintro e w1 ⟨B0, d0, B1, d1, rfl, hN, hb⟩
        have D := (Dn.start w _ _).step hb
        have yvx0 : w1.cell? ⟨w.heap.size + 1 + 1 + 1 + 1, 0, none⟩ = _ := (blk_cell D.vx 0).trans rfl
        have yvx1 : w1.cell? ⟨w.heap.size + 1 + 1 + 1 + 1, 1, none⟩ = _ := (blk_cell D.vx 1).trans rfl
        have zvx0 := blk_frozen D.vx 0
        have zvx1 := blk_frozen D.vx 1
        have E := D.setx (.slice B0 P'.length d0) (.slice B1 M'.length d1)
        have N := hN
        replace N := N.far (p := ⟨w.heap.size + 1 + 1 + 1 + 1, 0, none⟩) (fun k hk => by rcases hk with ⟨_, hk⟩ | hk <;> (dsimp only; omega)) (.slice B0 P'.length d0)
        replace N := N.far (p := ⟨w.heap.size + 1 + 1 + 1 + 1, 1, none⟩) (fun k hk => by rcases hk with ⟨_, hk⟩ | hk <;> (dsimp only; omega)) (.slice B1 M'.length d1)
        clear D hb hN
        go_wp2_with fail
        clear yvx0 yvx1 zvx0 zvx1
        generalize ((w1.setCell ⟨w.heap.size + 1 + 1 + 1 + 1, 0, none⟩ (.slice B0 P'.length d0)).setCell ⟨w.heap.size + 1 + 1 + 1 + 1, 1, none⟩ (.slice B1 M'.length d1)) = V at E N ⊢
        have hM : Kd.F (Kd.int .u8) V (fun k => (ok k ∧ k < w.heap.size) ∨ w.heap.size + 1 + 1 + 1 + 1 + 1 + 1 ≤ k) none 0 ([] : List Int) ∧ 0 ≤ 0 := ⟨Kd.F_nil _ _ _, Nat.le_refl _⟩
        replace E := E.drew
        replace N := N.below (below_drew1 (Below.refl _ _))
        replace hM := And.intro (Kd.F_drew hM.1) hM.2
        refine start_ (n := 6) (S := fun w' => w'.cell? ⟨w.heap.size + 1 + 1 + 1 + 1, 0, none⟩ = some (.slice B0 P'.length d0) ∧ w'.cell? ⟨w.heap.size + 1 + 1 + 1 + 1, 1, none⟩ = some (.slice B1 M'.length d1) ∧ w'.cell? ⟨w.heap.size + 1 + 1 + 1 + 1 + 1, 0, none⟩ = some (.int .i64 0) ∧ w'.cell? ⟨w.heap.size + 1 + 1 + 1 + 1 + 1, 1, none⟩ = some (.int .i64 0) ∧ w'.cell? ⟨w.heap.size + 1 + 1 + 1 + 1 + 1, 2, none⟩ = some (.slice none 0 0)) (ds := []) #[false, false, false, false, false, false] (by kernel_rfl) rfl rfl ⟨(blk_cell E.vx 0).trans rfl, (blk_cell E.vx 1).trans rfl, (blk_cell E.vm 0).trans rfl, (blk_cell E.vm 1).trans rfl, (blk_cell E.vm 2).trans rfl⟩ (fun hHeld => ?_)
        generalize V.drew = w34 at E N hM hHeld ⊢
        refine pure_ (i := 2) (N := some 64) (v := ?_) (a' := ?_) #[false, false, true, false, false, false] rfl rfl (by kernel_rfl) (fun _ _ _ h => h) (Or.inl ⟨by rfl, ?_⟩) ?_ ?_
        rotate_left
        · intro w'
          go_simp
          with_reducible rfl
        rotate_left
        · simp only [Act.put, sA, sZ, sS, i64_w, i32_w]
          rfl
        refine take_ (i := 0) (N := some 62) (v := ?_) (a' := ?_) #[true, false, true, false, false, false] rfl rfl (by kernel_rfl) (fun _ _ _ h => h) (Or.inl ⟨by rfl, ?_⟩) hHeld ?_ ?_
        rotate_left
        · rintro w' ⟨s0, s1, s2, s3, s4⟩
          go_simp
          with_reducible rfl
        rotate_left
        · simp only [Act.put, sA, sZ, sS, i64_w, i32_w]
          rfl
        refine take_ (i := 1) (N := some 63) (v := ?_) (a' := ?_) #[true, true, true, false, false, false] rfl rfl (by kernel_rfl) (fun _ _ _ h => h) (Or.inl ⟨by rfl, ?_⟩) hHeld ?_ ?_
        rotate_left
        · rintro w' ⟨s0, s1, s2, s3, s4⟩
          go_simp
          with_reducible rfl
        rotate_left
        · simp only [Act.put, sA, sZ, sS, i64_w, i32_w]
          rfl
        refine one_ (i := 3) (N := none) #[true, true, true, true, false, false] rfl rfl (by kernel_rfl) (by decide) (fun K hK => ?_)
        have s0 : w34.cell? ⟨w.heap.size + 1 + 1, 0, none⟩ = _ := (blk_cell E.r25 0).trans rfl
        have t0 := blk_frozen E.r25 0
        have s1 : w34.cell? ⟨w.heap.size + 1 + 1, 1, none⟩ = _ := (blk_cell E.r25 1).trans rfl
        have t1 := blk_frozen E.r25 1
        refine skip_ (w1 := ?_) (by rfl) rfl ?_ ?_
        rotate_left
        · go_simp
          rfl
        refine hK.out _ _ ⟨((cell_far (by dsimp only; omega) _).trans ((cell_far (by dsimp only; omega) _).trans hHeld.1)), ((cell_far (by dsimp only; omega) _).trans ((cell_far (by dsimp only; omega) _).trans hHeld.2.1)), ((cell_far (by dsimp only; omega) _).trans ((cell_far (by dsimp only; omega) _).trans hHeld.2.2.1)), ((cell_far (by dsimp only; omega) _).trans ((cell_far (by dsimp only; omega) _).trans hHeld.2.2.2.1)), ((cell_far (by dsimp only; omega) _).trans ((cell_far (by dsimp only; omega) _).trans hHeld.2.2.2.2))⟩ (fun hHeld => ?_)
        clear hK K
        refine one_ (i := 4) (N := none) #[true, true, true, true, true, false] rfl rfl (by kernel_rfl) (by decide) (fun K hK => ?_)
        have s2 : w34.cell? ⟨w.heap.size + 1 + 1 + 1, 0, none⟩ = _ := (blk_cell E.r39 0).trans rfl
        have t2 := blk_frozen E.r39 0
        have s3 : w34.cell? ⟨w.heap.size + 1 + 1 + 1, 1, none⟩ = _ := (blk_cell E.r39 1).trans rfl
        have t3 := blk_frozen E.r39 1
        have s4 : w34.cell? ⟨w.heap.size + 1 + 1 + 1, 2, none⟩ = _ := (blk_cell E.r39 2).trans rfl
        have t4 := blk_frozen E.r39 2
        refine skip_ (w1 := ?_) (by rfl) rfl ?_ ?_
        rotate_left
        · go_simp
          rfl
        refine hK.out _ _ ⟨((cell_far (by dsimp only; omega) _).trans ((cell_far (by dsimp only; omega) _).trans ((cell_far (by dsimp only; omega) _).trans hHeld.1))), ((cell_far (by dsimp only; omega) _).trans ((cell_far (by dsimp only; omega) _).trans ((cell_far (by dsimp only; omega) _).trans hHeld.2.1))), ((cell_far (by dsimp only; omega) _).trans ((cell_far (by dsimp only; omega) _).trans ((cell_far (by dsimp only; omega) _).trans hHeld.2.2.1))), ((cell_far (by dsimp only; omega) _).trans ((cell_far (by dsimp only; omega) _).trans ((cell_far (by dsimp only; omega) _).trans hHeld.2.2.2.1))), ((cell_far (by dsimp only; omega) _).trans ((cell_far (by dsimp only; omega) _).trans ((cell_far (by dsimp only; omega) _).trans hHeld.2.2.2.2)))⟩ (fun hHeld => ?_)
        clear hK K
        refine pure_ (i := 5) (N := some 6) (v := ?_) (a' := ?_) #[true, true, true, true, true, true] rfl rfl (by kernel_rfl) (fun _ _ _ h => h) (Or.inl ⟨by rfl, ?_⟩) ?_ ?_
        rotate_left
        · intro w'
          go_simp
          with_reducible rfl
        rotate_left
        · simp only [Act.put, sA, sZ, sS, i64_w, i32_w]
          rfl
        refine done_ (by kernel_rfl) ?_
        try go_wp2
        have E2 := E.res (.slice B0 P'.length d0) (.slice B1 M'.length d1) (.int .i64 0) (.int .i64 0) (.slice none 0 0)
        refine bodyPost_ret (results_list (rs := [.cell 4 25, .cell 5 39, .tmp 6]) rfl (by simp) (.cell (w.heap.size + 1 + 1) 25 #[.slice B0 P'.length d0, .slice B1 M'.length d1] (0, 0) _ rfl E2.1 Try.underlying25 rfl (by kernel_rfl) (.cell (w.heap.size + 1 + 1 + 1) 39 #[.int .i64 0, .int .i64 0, (.slice none 0 0)] (0, 0) _ rfl E2.2.1 Try.underlying39 rfl (by kernel_rfl) (.tmp .nil)))) rfl ?_
        replace N := N.far (p := ⟨w.heap.size + 1 + 1, 0, none⟩) (fun k hk => by rcases hk with ⟨_, hk⟩ | hk <;> (dsimp only; omega)) (.slice B0 P'.length d0)
        replace hM := And.intro (Kd.F_far hM.1 (p := ⟨w.heap.size + 1 + 1, 0, none⟩) (fun k hk => by rcases hk with ⟨_, hk⟩ | hk <;> (dsimp only; omega)) (.slice B0 P'.length d0)) hM.2
        replace N := N.far (p := ⟨w.heap.size + 1 + 1, 1, none⟩) (fun k hk => by rcases hk with ⟨_, hk⟩ | hk <;> (dsimp only; omega)) (.slice B1 M'.length d1)
        replace hM := And.intro (Kd.F_far hM.1 (p := ⟨w.heap.size + 1 + 1, 1, none⟩) (fun k hk => by rcases hk with ⟨_, hk⟩ | hk <;> (dsimp only; omega)) (.slice B1 M'.length d1)) hM.2
        replace N := N.far (p := ⟨w.heap.size + 1 + 1 + 1, 0, none⟩) (fun k hk => by rcases hk with ⟨_, hk⟩ | hk <;> (dsimp only; omega)) (.int .i64 0)
        replace hM := And.intro (Kd.F_far hM.1 (p := ⟨w.heap.size + 1 + 1 + 1, 0, none⟩) (fun k hk => by rcases hk with ⟨_, hk⟩ | hk <;> (dsimp only; omega)) (.int .i64 0)) hM.2
        replace N := N.far (p := ⟨w.heap.size + 1 + 1 + 1, 1, none⟩) (fun k hk => by rcases hk with ⟨_, hk⟩ | hk <;> (dsimp only; omega)) (.int .i64 0)
        replace hM := And.intro (Kd.F_far hM.1 (p := ⟨w.heap.size + 1 + 1 + 1, 1, none⟩) (fun k hk => by rcases hk with ⟨_, hk⟩ | hk <;> (dsimp only; omega)) (.int .i64 0)) hM.2
        replace N := N.far (p := ⟨w.heap.size + 1 + 1 + 1, 2, none⟩) (fun k hk => by rcases hk with ⟨_, hk⟩ | hk <;> (dsimp only; omega)) (.slice none 0 0)
        replace hM := And.intro (Kd.F_far hM.1 (p := ⟨w.heap.size + 1 + 1 + 1, 2, none⟩) (fun k hk => by rcases hk with ⟨_, hk⟩ | hk <;> (dsimp only; omega)) (.slice none 0 0)) hM.2
        have hok : ∀ k, ((ok k ∧ k < w.heap.size) ∨ w.heap.size + 1 + 1 + 1 + 1 + 1 + 1 ≤ k) → ok k := fun k hk => by rcases hk with hk | hk; exact hk.1; exact hfr k (by omega)
        exact ⟨B0, d0, B1, d1, none, 0, rfl, N.mono hok, ⟨Kd.F_mono hM.1 hok, hM.2⟩, E2.2.2⟩
      · skip
        by_cases h3 : o.f0 = 3
        · have hd : doneP P M o = lift3 (copyP P M o.f1) := by unfold doneP; rw [if_neg h0]; rw [if_neg h1]; rw [if_neg h2]; rw [if_pos h3]
          rw [hd]
          clear hd
          obtain ⟨P', M', e', hsr⟩ : ∃ P' M' e', copyP P M o.f1 = (P', M', e') := ⟨_, _, _, rfl⟩
          rw [hsr]
          show Calls _ _ _ _ (RefMsg w ok P' M' 0 0 [] e')
          have q0 : (o.f0 == 0) = false := by simpa using h0
          have q1 : (o.f0 == 1) = false := by simpa using h1
          have q2 : (o.f0 == 2) = false := by simpa using h2
          have q3 : (o.f0 == 3) = true := by simpa using h3
          go_enter Try.func18, Try.ntmps18
          go_wp2_with fail
          refine (e_copy ((HN.bound.below (Dn.start w _ _).bel).mono (ok' := fun k => (ok k ∧ k < w.heap.size) ∨ w.heap.size + 1 + 1 + 1 + 1 + 1 + 1 ≤ k) (fun k hk => .inl hk)) (fun k hk => .inr (by simpa using hk)) hS o.f1 hsr).mono ?_
          rintro e w1 ⟨B0, d0, B1, d1, rfl, hN, hb⟩
          have D := (Dn.start w _ _).step hb
          have yvx0 : w1.cell? ⟨w.heap.size + 1 + 1 + 1 + 1, 0, none⟩ = _ := (blk_cell D.vx 0).trans rfl
          have yvx1 : w1.cell? ⟨w.heap.size + 1 + 1 + 1 + 1, 1, none⟩ = _ := (blk_cell D.vx 1).trans rfl
          have zvx0 := blk_frozen D.vx 0
          have zvx1 := blk_frozen D.vx 1
          have E := D.setx (.slice B0 P'.length d0) (.slice B1 M'.length d1)
          have N := hN
          replace N := N.far (p := ⟨w.heap.size + 1 + 1 + 1 + 1, 0, none⟩) (fun k hk => by rcases hk with ⟨_, hk⟩ | hk <;> (dsimp only; omega)) (.slice B0 P'.length d0)
          replace N := N.far (p := ⟨w.heap.size + 1 + 1 + 1 + 1, 1, none⟩) (fun k hk => by rcases hk with ⟨_, hk⟩ | hk <;> (dsimp only; omega)) (.slice B1 M'.length d1)
          clear D hb hN
          go_wp2_with fail
          clear yvx0 yvx1 zvx0 zvx1
          generalize ((w1.setCell ⟨w.heap.size + 1 + 1 + 1 + 1, 0, none⟩ (.slice B0 P'.length d0)).setCell ⟨w.heap.size + 1 + 1 + 1 + 1, 1, none⟩ (.slice B1 M'.length d1)) = V at E N ⊢
          have hM : Kd.F (Kd.int .u8) V (fun k => (ok k ∧ k < w.heap.size) ∨ w.heap.size + 1 + 1 + 1 + 1 + 1 + 1 ≤ k) none 0 ([] : List Int) ∧ 0 ≤ 0 := ⟨Kd.F_nil _ _ _, Nat.le_refl _⟩
          replace E := E.drew
          replace N := N.below (below_drew1 (Below.refl _ _))
          replace hM := And.intro (Kd.F_drew hM.1) hM.2
          refine start_ (n := 6) (S := fun w' => w'.cell? ⟨w.heap.size + 1 + 1 + 1 + 1, 0, none⟩ = some (.slice B0 P'.length d0) ∧ w'.cell? ⟨w.heap.size + 1 + 1 + 1 + 1, 1, none⟩ = some (.slice B1 M'.length d1) ∧ w'.cell? ⟨w.heap.size + 1 + 1 + 1 + 1 + 1, 0, none⟩ = some (.int .i64 0) ∧ w'.cell? ⟨w.heap.size + 1 + 1 + 1 + 1 + 1, 1, none⟩ = some (.int .i64 0) ∧ w'.cell? ⟨w.heap.size + 1 + 1 + 1 + 1 + 1, 2, none⟩ = some (.slice none 0 0)) (ds := []) #[false, false, false, false, false, false] (by kernel_rfl) rfl rfl ⟨(blk_cell E.vx 0).trans rfl, (blk_cell E.vx 1).trans rfl, (blk_cell E.vm 0).trans rfl, (blk_cell E.vm 1).trans rfl, (blk_cell E.vm 2).trans rfl⟩ (fun hHeld => ?_)
          generalize V.drew = w34 at E N hM hHeld ⊢
          refine pure_ (i := 2) (N := some 64) (v := ?_) (a' := ?_) #[false, false, true, false, false, false] rfl rfl (by kernel_rfl) (fun _ _ _ h => h) (Or.inl ⟨by rfl, ?_⟩) ?_ ?_
          rotate_left
          · intro w'
            go_simp
            with_reducible rfl
          rotate_left
          · simp only [Act.put, sA, sZ, sS, i64_w, i32_w]
            rfl
          refine take_ (i := 0) (N := some 62) (v := ?_) (a' := ?_) #[true, false, true, false, false, false] rfl rfl (by kernel_rfl) (fun _ _ _ h => h) (Or.inl ⟨by rfl, ?_⟩) hHeld ?_ ?_
          rotate_left
          · rintro w' ⟨s0, s1, s2, s3, s4⟩
            go_simp
            with_reducible rfl
          rotate_left
          · simp only [Act.put, sA, sZ, sS, i64_w, i32_w]
            rfl
          refine take_ (i := 1) (N := some 63) (v := ?_) (a' := ?_) #[true, true, true, false, false, false] rfl rfl (by kernel_rfl) (fun _ _ _ h => h) (Or.inl ⟨by rfl, ?_⟩) hHeld ?_ ?_
          rotate_left
          · rintro w' ⟨s0, s1, s2, s3, s4⟩
            go_simp
            with_reducible rfl
          rotate_left
          · simp only [Act.put, sA, sZ, sS, i64_w, i32_w]
            rfl
          refine one_ (i := 3) (N := none) #[true, true, true, true, false, false] rfl rfl (by kernel_rfl) (by decide) (fun K hK => ?_)
          have s0 : w34.cell? ⟨w.heap.size + 1 + 1, 0, none⟩ = _ := (blk_cell E.r25 0).trans rfl
          have t0 := blk_frozen E.r25 0
          have s1 : w34.cell? ⟨w.heap.size + 1 + 1, 1, none⟩ = _ := (blk_cell E.r25 1).trans rfl
          have t1 := blk_frozen E.r25 1
          refine skip_ (w1 := ?_) (by rfl) rfl ?_ ?_
          rotate_left
          · go_simp
            rfl
          refine hK.out _ _ ⟨((cell_far (by dsimp only; omega) _).trans ((cell_far (by dsimp only; omega) _).trans hHeld.1)), ((cell_far (by dsimp only; omega) _).trans ((cell_far (by dsimp only; omega) _).trans hHeld.2.1)), ((cell_far (by dsimp only; omega) _).trans ((cell_far (by dsimp only; omega) _).trans hHeld.2.2.1)), ((cell_far (by dsimp only; omega) _).trans ((cell_far (by dsimp only; omega) _).trans hHeld.2.2.2.1)), ((cell_far (by dsimp only; omega) _).trans ((cell_far (by dsimp only; omega) _).trans hHeld.2.2.2.2))⟩ (fun hHeld => ?_)
          clear hK K
          refine one_ (i := 4) (N := none) #[true, true, true, true, true, false] rfl rfl (by kernel_rfl) (by decide) (fun K hK => ?_)
          have s2 : w34.cell? ⟨w.heap.size + 1 + 1 + 1, 0, none⟩ = _ := (blk_cell E.r39 0).trans rfl
          have t2 := blk_frozen E.r39 0
          have s3 : w34.cell? ⟨w.heap.size + 1 + 1 + 1, 1, none⟩ = _ := (blk_cell E.r39 1).trans rfl
          have t3 := blk_frozen E.r39 1
          have s4 : w34.cell? ⟨w.heap.size + 1 + 1 + 1, 2, none⟩ = _ := (blk_cell E.r39 2).trans rfl
          have t4 := blk_frozen E.r39 2
          refine skip_ (w1 := ?_) (by rfl) rfl ?_ ?_
          rotate_left
          · go_simp
            rfl
          refine hK.out _ _ ⟨((cell_far (by dsimp only; omega) _).trans ((cell_far (by dsimp only; omega) _).trans ((cell_far (by dsimp only; omega) _).trans hHeld.1))), ((cell_far (by dsimp only; omega) _).trans ((cell_far (by dsimp only; omega) _).trans ((cell_far (by dsimp only; omega) _).trans hHeld.2.1))), ((cell_far (by dsimp only; omega) _).trans ((cell_far (by dsimp only; omega) _).trans ((cell_far (by dsimp only; omega) _).trans hHeld.2.2.1))), ((cell_far (by dsimp only; omega) _).trans ((cell_far (by dsimp only; omega) _).trans ((cell_far (by dsimp only; omega) _).trans hHeld.2.2.2.1))), ((cell_far (by dsimp only; omega) _).trans ((cell_far (by dsimp only; omega) _).trans ((cell_far (by dsimp only; omega) _).trans hHeld.2.2.2.2)))⟩ (fun hHeld => ?_)
          clear hK K
          refine pure_ (i := 5) (N := some 6) (v := ?_) (a' := ?_) #[true, true, true, true, true, true] rfl rfl (by kernel_rfl) (fun _ _ _ h => h) (Or.inl ⟨by rfl, ?_⟩) ?_ ?_
          rotate_left
          · intro w'
            go_simp
            with_reducible rfl
          rotate_left
          · simp only [Act.put, sA, sZ, sS, i64_w, i32_w]
            rfl
          refine done_ (by kernel_rfl) ?_
          try go_wp2
          have E2 := E.res (.slice B0 P'.length d0) (.slice B1 M'.length d1) (.int .i64 0) (.int .i64 0) (.slice none 0 0)
          refine bodyPost_ret (results_list (rs := [.cell 4 25, .cell 5 39, .tmp 6]) rfl (by simp) (.cell (w.heap.size + 1 + 1) 25 #[.slice B0 P'.length d0, .slice B1 M'.length d1] (0, 0) _ rfl E2.1 Try.underlying25 rfl (by kernel_rfl) (.cell (w.heap.size + 1 + 1 + 1) 39 #[.int .i64 0, .int .i64 0, (.slice none 0 0)] (0, 0) _ rfl E2.2.1 Try.underlying39 rfl (by kernel_rfl) (.tmp .nil)))) rfl ?_
          replace N := N.far (p := ⟨w.heap.size + 1 + 1, 0, none⟩) (fun k hk => by rcases hk with ⟨_, hk⟩ | hk <;> (dsimp only; omega)) (.slice B0 P'.length d0)
          replace hM := And.intro (Kd.F_far hM.1 (p := ⟨w.heap.size + 1 + 1, 0, none⟩) (fun k hk => by rcases hk with ⟨_, hk⟩ | hk <;> (dsimp only; omega)) (.slice B0 P'.length d0)) hM.2
          replace N := N.far (p := ⟨w.heap.size + 1 + 1, 1, none⟩) (fun k hk => by rcases hk with ⟨_, hk⟩ | hk <;> (dsimp only; omega)) (.slice B1 M'.length d1)
          replace hM := And.intro (Kd.F_far hM.1 (p := ⟨w.heap.size + 1 + 1, 1, none⟩) (fun k hk => by rcases hk with ⟨_, hk⟩ | hk <;> (dsimp only; omega)) (.slice B1 M'.length d1)) hM.2
          replace N := N.far (p := ⟨w.heap.size + 1 + 1 + 1, 0, none⟩) (fun k hk => by rcases hk with ⟨_, hk⟩ | hk <;> (dsimp only; omega)) (.int .i64 0)
          replace hM := And.intro (Kd.F_far hM.1 (p := ⟨w.heap.size + 1 + 1 + 1, 0, none⟩) (fun k hk => by rcases hk with ⟨_, hk⟩ | hk <;> (dsimp only; omega)) (.int .i64 0)) hM.2
          replace N := N.far (p := ⟨w.heap.size + 1 + 1 + 1, 1, none⟩) (fun k hk => by rcases hk with ⟨_, hk⟩ | hk <;> (dsimp only; omega)) (.int .i64 0)
          replace hM := And.intro (Kd.F_far hM.1 (p := ⟨w.heap.size + 1 + 1 + 1, 1, none⟩) (fun k hk => by rcases hk with ⟨_, hk⟩ | hk <;> (dsimp only; omega)) (.int .i64 0)) hM.2
          replace N := N.far (p := ⟨w.heap.size + 1 + 1 + 1, 2, none⟩) (fun k hk => by rcases hk with ⟨_, hk⟩ | hk <;> (dsimp only; omega)) (.slice none 0 0)
          replace hM := And.intro (Kd.F_far hM.1 (p := ⟨w.heap.size + 1 + 1 + 1, 2, none⟩) (fun k hk => by rcases hk with ⟨_, hk⟩ | hk <;> (dsimp only; omega)) (.slice none 0 0)) hM.2
          have hok : ∀ k, ((ok k ∧ k < w.heap.size) ∨ w.heap.size + 1 + 1 + 1 + 1 + 1 + 1 ≤ k) → ok k := fun k hk => by rcases hk with hk | hk; exact hk.1; exact hfr k (by omega)
          exact ⟨B0, d0, B1, d1, none, 0, rfl, N.mono hok, ⟨Kd.F_mono hM.1 hok, hM.2⟩, E2.2.2⟩
        · skip
          have hd : doneP P M o = lift3 (splitP P M o.f4) := by unfold doneP; rw [if_neg h0]; rw [if_neg h1]; rw [if_neg h2]; rw [if_neg h3]
          rw [hd]
          clear hd
          obtain ⟨P', M', e', hsr⟩ : ∃ P' M' e', splitP P M o.f4 = (P', M', e') := ⟨_, _, _, rfl⟩
          rw [hsr]
          show Calls _ _ _ _ (RefMsg w ok P' M' 0 0 [] e')
          have q0 : (o.f0 == 0) = false := by simpa using h0
          have q1 : (o.f0 == 1) = false := by simpa using h1
          have q2 : (o.f0 == 2) = false := by simpa using h2
          have q3 : (o.f0 == 3) = false := by simpa using h3
          go_enter Try.func18, Try.ntmps18
          go_wp2_with fail
          refine (e_split ((HN.bound.below (Dn.start w _ _).bel).mono (ok' := fun k => (ok k ∧ k < w.heap.size) ∨ w.heap.size + 1 + 1 + 1 + 1 + 1 + 1 ≤ k) (fun k hk => .inl hk)) (fun k hk => .inr (by simpa using hk)) hS o.f4 (Kd.C_below hr3 (Dn.start w _ _).bel) hc3 hsr).mono ?_
          rintro e w1 ⟨B0, d0, B1, d1, rfl, hN, hb⟩
          have D := (Dn.start w _ _).step hb
          have yvx0 : w1.cell? ⟨w.heap.size + 1 + 1 + 1 + 1, 0, none⟩ = _ := (blk_cell D.vx 0).trans rfl
          have yvx1 : w1.cell? ⟨w.heap.size + 1 + 1 + 1 + 1, 1, none⟩ = _ := (blk_cell D.vx 1).trans rfl
          have zvx0 := blk_frozen D.vx 0
          have zvx1 := blk_frozen D.vx 1
          have E := D.setx (.slice B0 P'.length d0) (.slice B1 M'.length d1)
          have N := hN
          replace N := N.far (p := ⟨w.heap.size + 1 + 1 + 1 + 1, 0, none⟩) (fun k hk => by rcases hk with ⟨_, hk⟩ | hk <;> (dsimp only; omega)) (.slice B0 P'.length d0)
          replace N := N.far (p := ⟨w.heap.size + 1 + 1 + 1 + 1, 1, none⟩) (fun k hk => by rcases hk with ⟨_, hk⟩ | hk <;> (dsimp only; omega)) (.slice B1 M'.length d1)
          clear D hb hN
          go_wp2_with fail
          clear yvx0 yvx1 zvx0 zvx1
          generalize ((w1.setCell ⟨w.heap.size + 1 + 1 + 1 + 1, 0, none⟩ (.slice B0 P'.length d0)).setCell ⟨w.heap.size + 1 + 1 + 1 + 1, 1, none⟩ (.slice B1 M'.length d1)) = V at E N ⊢
          have hM : Kd.F (Kd.int .u8) V (fun k => (ok k ∧ k < w.heap.size) ∨ w.heap.size + 1 + 1 + 1 + 1 + 1 + 1 ≤ k) none 0 ([] : List Int) ∧ 0 ≤ 0 := ⟨Kd.F_nil _ _ _, Nat.le_refl _⟩
          replace E := E.drew
          replace N := N.below (below_drew1 (Below.refl _ _))
          replace hM := And.intro (Kd.F_drew hM.1) hM.2
          refine start_ (n := 6) (S := fun w' => w'.cell? ⟨w.heap.size + 1 + 1 + 1 + 1, 0, none⟩ = some (.slice B0 P'.length d0) ∧ w'.cell? ⟨w.heap.size + 1 + 1 + 1 + 1, 1, none⟩ = some (.slice B1 M'.length d1) ∧ w'.cell? ⟨w.heap.size + 1 + 1 + 1 + 1 + 1, 0, none⟩ = some (.int .i64 0) ∧ w'.cell? ⟨w.heap.size + 1 + 1 + 1 + 1 + 1, 1, none⟩ = some (.int .i64 0) ∧ w'.cell? ⟨w.heap.size + 1 + 1 + 1 + 1 + 1, 2, none⟩ = some (.slice none 0 0)) (ds := []) #[false, false, false, false, false, false] (by kernel_rfl) rfl rfl ⟨(blk_cell E.vx 0).trans rfl, (blk_cell E.vx 1).trans rfl, (blk_cell E.vm 0).trans rfl, (blk_cell E.vm 1).trans rfl, (blk_cell E.vm 2).trans rfl⟩ (fun hHeld => ?_)
          generalize V.drew = w34 at E N hM hHeld ⊢
          refine pure_ (i := 2) (N := some 64) (v := ?_) (a' := ?_) #[false, false, true, false, false, false] rfl rfl (by kernel_rfl) (fun _ _ _ h => h) (Or.inl ⟨by rfl, ?_⟩) ?_ ?_
          rotate_left
          · intro w'
            go_simp
            with_reducible rfl
          rotate_left
          · simp only [Act.put, sA, sZ, sS, i64_w, i32_w]
            rfl
          refine take_ (i := 0) (N := some 62) (v := ?_) (a' := ?_) #[true, false, true, false, false, false] rfl rfl (by kernel_rfl) (fun _ _ _ h => h) (Or.inl ⟨by rfl, ?_⟩) hHeld ?_ ?_
          rotate_left
          · rintro w' ⟨s0, s1, s2, s3, s4⟩
            go_simp
            with_reducible rfl
          rotate_left
          · simp only [Act.put, sA, sZ, sS, i64_w, i32_w]
            rfl
          refine take_ (i := 1) (N := some 63) (v := ?_) (a' := ?_) #[true, true, true, false, false, false] rfl rfl (by kernel_rfl) (fun _ _ _ h => h) (Or.inl ⟨by rfl, ?_⟩) hHeld ?_ ?_
          rotate_left
          · rintro w' ⟨s0, s1, s2, s3, s4⟩
            go_simp
            with_reducible rfl
          rotate_left
          · simp only [Act.put, sA, sZ, sS, i64_w, i32_w]
            rfl
          refine one_ (i := 3) (N := none) #[true, true, true, true, false, false] rfl rfl (by kernel_rfl) (by decide) (fun K hK => ?_)
          have s0 : w34.cell? ⟨w.heap.size + 1 + 1, 0, none⟩ = _ := (blk_cell E.r25 0).trans rfl
          have t0 := blk_frozen E.r25 0
          have s1 : w34.cell? ⟨w.heap.size + 1 + 1, 1, none⟩ = _ := (blk_cell E.r25 1).trans rfl
          have t1 := blk_frozen E.r25 1
          refine skip_ (w1 := ?_) (by rfl) rfl ?_ ?_
          rotate_left
          · go_simp
            rfl
          refine hK.out _ _ ⟨((cell_far (by dsimp only; omega) _).trans ((cell_far (by dsimp only; omega) _).trans hHeld.1)), ((cell_far (by dsimp only; omega) _).trans ((cell_far (by dsimp only; omega) _).trans hHeld.2.1)), ((cell_far (by dsimp only; omega) _).trans ((cell_far (by dsimp only; omega) _).trans hHeld.2.2.1)), ((cell_far (by dsimp only; omega) _).trans ((cell_far (by dsimp only; omega) _).trans hHeld.2.2.2.1)), ((cell_far (by dsimp only; omega) _).trans ((cell_far (by dsimp only; omega) _).trans hHeld.2.2.2.2))⟩ (fun hHeld => ?_)
          clear hK K
          refine one_ (i := 4) (N := none) #[true, true, true, true, true, false] rfl rfl (by kernel_rfl) (by decide) (fun K hK => ?_)
          have s2 : w34.cell? ⟨w.heap.size + 1 + 1 + 1, 0, none⟩ = _ := (blk_cell E.r39 0).trans rfl
          have t2 := blk_frozen E.r39 0
          have s3 : w34.cell? ⟨w.heap.size + 1 + 1 + 1, 1, none⟩ = _ := (blk_cell E.r39 1).trans rfl
          have t3 := blk_frozen E.r39 1
          have s4 : w34.cell? ⟨w.heap.size + 1 + 1 + 1, 2, none⟩ = _ := (blk_cell E.r39 2).trans rfl
          have t4 := blk_frozen E.r39 2
          refine skip_ (w1 := ?_) (by rfl) rfl ?_ ?_
          rotate_left
          · go_simp
            rfl
          refine hK.out _ _ ⟨((cell_far (by dsimp only; omega) _).trans ((cell_far (by dsimp only; omega) _).trans ((cell_far (by dsimp only; omega) _).trans hHeld.1))), ((cell_far (by dsimp only; omega) _).trans ((cell_far (by dsimp only; omega) _).trans ((cell_far (by dsimp only; omega) _).trans hHeld.2.1))), ((cell_far (by dsimp only; omega) _).trans ((cell_far (by dsimp only; omega) _).trans ((cell_far (by dsimp only; omega) _).trans hHeld.2.2.1))), ((cell_far (by dsimp only; omega) _).trans ((cell_far (by dsimp only; omega) _).trans ((cell_far (by dsimp only; omega) _).trans hHeld.2.2.2.1))), ((cell_far (by dsimp only; omega) _).trans ((cell_far (by dsimp only; omega) _).trans ((cell_far (by dsimp only; omega) _).trans hHeld.2.2.2.2)))⟩ (fun hHeld => ?_)
          clear hK K
          refine pure_ (i := 5) (N := some 6) (v := ?_) (a' := ?_) #[true, true, true, true, true, true] rfl rfl (by kernel_rfl) (fun _ _ _ h => h) (Or.inl ⟨by rfl, ?_⟩) ?_ ?_
          rotate_left
          · intro w'
            go_simp
            with_reducible rfl
          rotate_left
          · simp only [Act.put, sA, sZ, sS, i64_w, i32_w]
            rfl
          refine done_ (by kernel_rfl) ?_
          try go_wp2
          have E2 := E.res (.slice B0 P'.length d0) (.slice B1 M'.length d1) (.int .i64 0) (.int .i64 0) (.slice none 0 0)
          refine bodyPost_ret (results_list (rs := [.cell 4 25, .cell 5 39, .tmp 6]) rfl (by simp) (.cell (w.heap.size + 1 + 1) 25 #[.slice B0 P'.length d0, .slice B1 M'.length d1] (0, 0) _ rfl E2.1 Try.underlying25 rfl (by kernel_rfl) (.cell (w.heap.size + 1 + 1 + 1) 39 #[.int .i64 0, .int .i64 0, (.slice none 0 0)] (0, 0) _ rfl E2.2.1 Try.underlying39 rfl (by kernel_rfl) (.tmp .nil)))) rfl ?_
          replace N := N.far (p := ⟨w.heap.size + 1 + 1, 0, none⟩) (fun k hk => by rcases hk with ⟨_, hk⟩ | hk <;> (dsimp only; omega)) (.slice B0 P'.length d0)
          replace hM := And.intro (Kd.F_far hM.1 (p := ⟨w.heap.size + 1 + 1, 0, none⟩) (fun k hk => by rcases hk with ⟨_, hk⟩ | hk <;> (dsimp only; omega)) (.slice B0 P'.length d0)) hM.2
          replace N := N.far (p := ⟨w.heap.size + 1 + 1, 1, none⟩) (fun k hk => by rcases hk with ⟨_, hk⟩ | hk <;> (dsimp only; omega)) (.slice B1 M'.length d1)
          replace hM := And.intro (Kd.F_far hM.1 (p := ⟨w.heap.size + 1 + 1, 1, none⟩) (fun k hk => by rcases hk with ⟨_, hk⟩ | hk <;> (dsimp only; omega)) (.slice B1 M'.length d1)) hM.2
          replace N := N.far (p := ⟨w.heap.size + 1 + 1 + 1, 0, none⟩) (fun k hk => by rcases hk with ⟨_, hk⟩ | hk <;> (dsimp only; omega)) (.int .i64 0)
          replace hM := And.intro (Kd.F_far hM.1 (p := ⟨w.heap.size + 1 + 1 + 1, 0, none⟩) (fun k hk => by rcases hk with ⟨_, hk⟩ | hk <;> (dsimp only; omega)) (.int .i64 0)) hM.2
          replace N := N.far (p := ⟨w.heap.size + 1 + 1 + 1, 1, none⟩) (fun k hk => by rcases hk with ⟨_, hk⟩ | hk <;> (dsimp only; omega)) (.int .i64 0)
          replace hM := And.intro (Kd.F_far hM.1 (p := ⟨w.heap.size + 1 + 1 + 1, 1, none⟩) (fun k hk => by rcases hk with ⟨_, hk⟩ | hk <;> (dsimp only; omega)) (.int .i64 0)) hM.2
          replace N := N.far (p := ⟨w.heap.size + 1 + 1 + 1, 2, none⟩) (fun k hk => by rcases hk with ⟨_, hk⟩ | hk <;> (dsimp only; omega)) (.slice none 0 0)
          replace hM := And.intro (Kd.F_far hM.1 (p := ⟨w.heap.size + 1 + 1 + 1, 2, none⟩) (fun k hk => by rcases hk with ⟨_, hk⟩ | hk <;> (dsimp only; omega)) (.slice none 0 0)) hM.2
          have hok : ∀ k, ((ok k ∧ k < w.heap.size) ∨ w.heap.size + 1 + 1 + 1 + 1 + 1 + 1 ≤ k) → ok k := fun k hk => by rcases hk with hk | hk; exact hk.1; exact hfr k (by omega)
          exact ⟨B0, d0, B1, d1, none, 0, rfl, N.mono hok, ⟨Kd.F_mono hM.1 hok, hM.2⟩, E2.2.2⟩

end Go.Proofs.Ytlaheldjlfckkaa.A

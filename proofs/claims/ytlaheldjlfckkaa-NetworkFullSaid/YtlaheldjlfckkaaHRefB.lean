/- Contracts of the reference's functions of layer 58, more. -/
import Derived.Test.YtlaheldjlfckkaaHRefA
namespace Go.Proofs.Ytlaheldjlfckkaa.A
open Go.RowKit Go.Proofs.YtlaheldjlfckkaaW.PrintWords Go.Proofs.YtlaheldjlfckkaaW.PrintLast Go.Proofs.YtlaheldjlfckkaaW.PrintMore
set_option linter.unusedVariables false
set_option linter.unusedSimpArgs false
section
variable {k : Nat} {w : World} {ok : Nat → Prop} {A0 A1 A : Option Addr} {c0 c1 c : Nat} {P P' : List Int} {M M' : List S39} {e : Int}
theorem blk_next3 (W : World) (o o' o'' : Obj) (cs : Array Value) (n : Nat) : ((((W.alloc o).alloc o').alloc o'').alloc (.cells cs n)).heap[W.heap.size + 3]? = some (.cells cs n (0, 0)) := by
  have h := blk_new (((W.alloc o).alloc o').alloc o'') (.cells cs n (0, 0))
  simpa using h
/-- A network and a message are stored into their result's cells. -/
theorem res_pair {w0 W : World} {g1 g2 : Nat} {a0 a1 b0 b1 b2 : Value} (h1 : W.heap[g1]? = some (.cells #[a0, a1] 25 (0, 0))) (h2 : W.heap[g2]? = some (.cells #[b0, b1, b2] 39 (0, 0))) (hne : g1 ≠ g2) (a b c d e : Value) :
    (((((W.setCell ⟨g1, 0, none⟩ a).setCell ⟨g1, 1, none⟩ b).setCell ⟨g2, 0, none⟩ c).setCell ⟨g2, 1, none⟩ d).setCell ⟨g2, 2, none⟩ e).heap[g1]? = some (.cells #[a, b] 25 (0, 0)) ∧
    (((((W.setCell ⟨g1, 0, none⟩ a).setCell ⟨g1, 1, none⟩ b).setCell ⟨g2, 0, none⟩ c).setCell ⟨g2, 1, none⟩ d).setCell ⟨g2, 2, none⟩ e).heap[g2]? = some (.cells #[c, d, e] 39 (0, 0)) ∧
    (w0.heap.size ≤ g1 → w0.heap.size ≤ g2 → Below w0.heap.size w0 W → Below w0.heap.size w0 (((((W.setCell ⟨g1, 0, none⟩ a).setCell ⟨g1, 1, none⟩ b).setCell ⟨g2, 0, none⟩ c).setCell ⟨g2, 1, none⟩ d).setCell ⟨g2, 2, none⟩ e)) :=
  ⟨blk_far (blk_far (blk_far (blk_set (blk_set h1 0 a) 1 b) hne _) hne _) hne _, blk_set (blk_set (blk_set (blk_far (blk_far h2 (Ne.symm hne) _) (Ne.symm hne) _) 0 c) 1 d) 2 e,
    fun hg1 hg2 hB => below_set (below_set (below_set (below_set (below_set hB hg1) hg1) hg2) hg2) hg2⟩
set_option maxHeartbeats 6400000 in
set_option maxRecDepth 100000 in
theorem r_lose (HN : NF w ok A0 c0 P A1 c1 M) (hfr : ∀ k, w.heap.size ≤ k → ok k) (hM : M.length ≤ 1000) (i : Int) :
    Calls Try.prog 33 #[.agg #[.slice A0 P.length c0, .slice A1 M.length c1], .int .i64 i] w (RefNet w ok (loseP P M i).1 (loseP P M i).2.1 (loseP P M i).2.2) := by
  have hVs : ((w.alloc (.cells #[.slice A0 P.length c0, .slice A1 M.length c1] 25)).alloc (.cells #[.slice none 0 0, .slice none 0 0] 25)).heap.size = w.heap.size + 2 := by simp
  have hV0 := blk_alloc (blk_new w (.cells #[.slice A0 P.length c0, .slice A1 M.length c1] 25)) (.cells #[.slice none 0 0, .slice none 0 0] 25)
  have hV1 := blk_next w (.cells #[.slice A0 P.length c0, .slice A1 M.length c1] 25) #[.slice none 0 0, .slice none 0 0] 25
  have hB : Below w.heap.size w ((w.alloc (.cells #[.slice A0 P.length c0, .slice A1 M.length c1] 25)).alloc (.cells #[.slice none 0 0, .slice none 0 0] 25)) := below_alloc (below_alloc (Below.refl _ _) _) _
  have HNV := (HN.bound.below hB).mono (ok' := fun k => (ok k ∧ k < w.heap.size) ∨ ((w.alloc (.cells #[.slice A0 P.length c0, .slice A1 M.length c1] 25)).alloc (.cells #[.slice none 0 0, .slice none 0 0] 25)).heap.size ≤ k) (fun k hk => .inl hk)
  cases hi : indexP M i with
  | true =>
    have hl : loseP P M i = (P, skip i 0 M, 0) := by unfold loseP; rw [if_pos hi]
    rw [hl]
    clear hl
    obtain ⟨h0, h1⟩ := index_bounds hi
    obtain ⟨x, rfl⟩ := Int.eq_ofNat_of_zero_le h0
    have q0 : decide ((x : Int) < 0) = false := decide_eq_false (by omega)
    have q1 : decide ((M.length : Int) ≤ (x : Int)) = false := decide_eq_false (by omega)
    have q2 : ¬ ((x : Int) < 0) := by omega
    have q3 : ¬ ((M.length : Int) ≤ (x : Int)) := by omega
    have y0 := (blk_cell hV0 0).trans rfl
    have y1 := (blk_cell hV0 1).trans rfl
    have hcl := c_without HNV (fun k hk => .inr hk) x (by omega) hM
    clear h0 hi
    have HVS := Lib.hid hVs
    clear hVs
    go_enter Try.func33, Try.ntmps33
    go_wp2_with fail
    refine hcl.mono ?_
    rintro e w1 ⟨B1, d1, rfl, hN1, hb1⟩
    have hVs := HVS.out
    clear q0 q1 q2 q3 y0 y1 hcl
    have hr1 := blk_below hV1 hb1
    have u2 := (blk_cell hr1 0).trans rfl
    have u3 := (blk_cell hr1 1).trans rfl
    have u4 := blk_frozen hr1 0
    have u5 := blk_frozen hr1 1
    have hbb := below_step hB hb1
    go_wp2_with fail
    have hb8 := below_set (g := w.heap.size + 1) (j := 1) (v := (.slice B1 (skip (x : Int) 0 M).length d1)) (below_set (g := w.heap.size + 1) (j := 0) (v := (.slice A0 P.length c0)) hbb (by omega)) (by omega)
    have hN8 := (hN1.far (p := ⟨w.heap.size + 1, 0, none⟩) (fun k hk => by rcases hk with ⟨_, hk⟩ | hk <;> (dsimp only; omega)) (.slice A0 P.length c0)).far (p := ⟨w.heap.size + 1, 1, none⟩) (fun k hk => by rcases hk with ⟨_, hk⟩ | hk <;> (dsimp only; omega)) (.slice B1 (skip (x : Int) 0 M).length d1)
    refine bodyPost_ret (results_list (rs := [.cell 4 25, .tmp 5]) rfl (by simp) (.cell (w.heap.size + 1) 25 #[(.slice A0 P.length c0), (.slice B1 (skip (x : Int) 0 M).length d1)] (0, 0) _ rfl (blk_set (blk_set hr1 0 _) 1 _) Try.underlying25 rfl (by kernel_rfl) (.tmp .nil))) rfl ?_
    exact ⟨_, _, _, _, rfl, hN8.mono (fun k hk => by rcases hk with hk | hk; exact hk.1; exact hfr k (by omega)), hb8⟩
  | false =>
    have hl : loseP P M i = ([], [], 8) := by unfold loseP; rw [hi]; rfl
    rw [hl]
    clear hl
    have y0 := (blk_cell hV0 0).trans rfl
    have y1 := (blk_cell hV0 1).trans rfl
    by_cases h0 : i < 0
    · go_enter Try.func33, Try.ntmps33
      go_wp2_with fail
      refine bodyPost_ret (results_list (rs := [.cell 4 25, .tmp 5]) rfl (by simp) (.cell (w.heap.size + 1) 25 #[.slice none 0 0, .slice none 0 0] (0, 0) _ rfl hV1 Try.underlying25 rfl (by kernel_rfl) (.tmp .nil))) rfl ?_
      exact ⟨none, 0, none, 0, rfl, NF.nil _ _, hB⟩
    · have h1 : (M.length : Int) ≤ i := by
        have h := hi
        unfold indexP at h
        rw [decide_eq_false_iff_not] at h
        omega
      go_enter Try.func33, Try.ntmps33
      go_wp2_with fail
      refine bodyPost_ret (results_list (rs := [.cell 4 25, .tmp 5]) rfl (by simp) (.cell (w.heap.size + 1) 25 #[.slice none 0 0, .slice none 0 0] (0, 0) _ rfl hV1 Try.underlying25 rfl (by kernel_rfl) (.tmp .nil))) rfl ?_
      exact ⟨none, 0, none, 0, rfl, NF.nil _ _, hB⟩
set_option maxHeartbeats 6400000 in
set_option maxRecDepth 100000 in
theorem r_copy (HN : NF w ok A0 c0 P A1 c1 M) (hfr : ∀ k, w.heap.size ≤ k → ok k) (hS : Small P M) (i : Int) :
    Calls Try.prog 34 #[.agg #[.slice A0 P.length c0, .slice A1 M.length c1], .int .i64 i] w (RefNet w ok (copyP P M i).1 (copyP P M i).2.1 (copyP P M i).2.2) := by
  have hM := hS.2.1
  have hVs : ((w.alloc (.cells #[.slice A0 P.length c0, .slice A1 M.length c1] 25)).alloc (.cells #[.slice none 0 0, .slice none 0 0] 25)).heap.size = w.heap.size + 2 := by simp
  have hV0 := blk_alloc (blk_new w (.cells #[.slice A0 P.length c0, .slice A1 M.length c1] 25)) (.cells #[.slice none 0 0, .slice none 0 0] 25)
  have hV1 := blk_next w (.cells #[.slice A0 P.length c0, .slice A1 M.length c1] 25) #[.slice none 0 0, .slice none 0 0] 25
  have hB : Below w.heap.size w ((w.alloc (.cells #[.slice A0 P.length c0, .slice A1 M.length c1] 25)).alloc (.cells #[.slice none 0 0, .slice none 0 0] 25)) := below_alloc (below_alloc (Below.refl _ _) _) _
  have HNV := (HN.bound.below hB).mono (ok' := fun k => (ok k ∧ k < w.heap.size) ∨ ((w.alloc (.cells #[.slice A0 P.length c0, .slice A1 M.length c1] 25)).alloc (.cells #[.slice none 0 0, .slice none 0 0] 25)).heap.size ≤ k) (fun k hk => .inl hk)
  cases hi : indexP M i with
  | true =>
    obtain ⟨h0, h1⟩ := index_bounds hi
    obtain ⟨x, rfl⟩ := Int.eq_ofNat_of_zero_le h0
    have q2 : ¬ ((x : Int) < 0) := by omega
    have q3 : ¬ ((M.length : Int) ≤ (x : Int)) := by omega
    have y0 := (blk_cell hV0 0).trans rfl
    have y1 := (blk_cell hV0 1).trans rfl
    by_cases h2 : 256 ≤ M.length
    · have hl : copyP P M (x : Int) = ([], [], 9) := by unfold copyP; rw [if_pos hi, if_pos h2]
      rw [hl]
      clear hl
      have q4 : (256 : Int) ≤ (M.length : Int) := by omega
      clear h0 hi
      have HVS := Lib.hid hVs
      clear hVs
      go_enter Try.func34, Try.ntmps34
      go_wp2_with fail
      refine bodyPost_ret (results_list (rs := [.cell 4 25, .tmp 5]) rfl (by simp) (.cell (w.heap.size + 1) 25 #[.slice none 0 0, .slice none 0 0] (0, 0) _ rfl hV1 Try.underlying25 rfl (by kernel_rfl) (.tmp .nil))) rfl ?_
      exact ⟨none, 0, none, 0, rfl, NF.nil _ _, hB⟩
    · have hl : copyP P M (x : Int) = (P, M ++ [rd_T39 M (x : Int)], 0) := by unfold copyP; rw [if_pos hi, if_neg h2]
      rw [hl]
      clear hl
      have q4 : ¬ ((256 : Int) ≤ (M.length : Int)) := by omega
      have hbo := rd_small hS hi
      obtain ⟨ad, A3, c3, eA, x0, x1, x2, h3, g3⟩ := at_T39 HNV.nc.m.1 (x : Int) (by omega) h1
      subst eA
      rw [Int.toNat_natCast] at x0 x1 x2
      clear h0 hi
      generalize rd_T39 M (x : Int) = m at *
      have HVS := Lib.hid hVs
      clear hVs
      go_enter Try.func34, Try.ntmps34
      go_wp2_with fail
      have held := Lib.hid (fun (w' : World) (hb : Below ((w.alloc (.cells #[.slice A0 P.length c0, .slice (some ad) M.length c1] 25)).alloc (.cells #[.slice none 0 0, .slice none 0 0] 25)).heap.size ((w.alloc (.cells #[.slice A0 P.length c0, .slice (some ad) M.length c1] 25)).alloc (.cells #[.slice none 0 0, .slice none 0 0] 25)) w') => (show w'.cell? ⟨w.heap.size, 0, none⟩ = some (.slice A0 P.length c0) ∧ w'.cell? ⟨w.heap.size, 1, none⟩ = some (.slice (some ad) M.length c1) ∧ w'.cell? (ad.add (x * 3)) = some (.int .i64 m.f0) ∧ w'.cell? ⟨(ad.add (x * 3)).block, (ad.add (x * 3)).off + 1, none⟩ = some (.int .i64 m.f1) ∧ w'.cell? ⟨(ad.add (x * 3)).block, (ad.add (x * 3)).off + 2, none⟩ = some (.slice A3 m.f2.length c3) ∧ Below ((w.alloc (.cells #[.slice A0 P.length c0, .slice (some ad) M.length c1] 25)).alloc (.cells #[.slice none 0 0, .slice none 0 0] 25)).heap.size ((w.alloc (.cells #[.slice A0 P.length c0, .slice (some ad) M.length c1] 25)).alloc (.cells #[.slice none 0 0, .slice none 0 0] 25)) w' from
        ⟨(blk_cell (blk_below hV0 hb) 0).trans rfl, (blk_cell (blk_below hV0 hb) 1).trans rfl, (hb.cell (World.block_lt_of_cell? _ _ x0)).trans x0, (hb.cell (World.block_lt_of_cell? _ _ x1)).trans x1, (hb.cell (World.block_lt_of_cell? _ _ x2)).trans x2, hb⟩))
      have hcl := fun (W : World) (hb : Below ((w.alloc (.cells #[.slice A0 P.length c0, .slice (some ad) M.length c1] 25)).alloc (.cells #[.slice none 0 0, .slice none 0 0] 25)).heap.size ((w.alloc (.cells #[.slice A0 P.length c0, .slice (some ad) M.length c1] 25)).alloc (.cells #[.slice none 0 0, .slice none 0 0] 25)) W) => c_add (HNV.below hb) (fun k hk => .inr (Nat.le_trans hb.size hk)) m.f0 m.f1 m.f2 (Kd.C_below g3 hb) h3 hM hbo
      have HCL := Lib.hid hcl
      clear q2 q3 q4 y0 y1 x0 x1 x2 hcl
      refine start_ (n := 9) (S := (fun w' => w'.cell? ⟨w.heap.size, 0, none⟩ = some (.slice A0 P.length c0) ∧ w'.cell? ⟨w.heap.size, 1, none⟩ = some (.slice (some ad) M.length c1) ∧ w'.cell? (ad.add (x * 3)) = some (.int .i64 m.f0) ∧ w'.cell? ⟨(ad.add (x * 3)).block, (ad.add (x * 3)).off + 1, none⟩ = some (.int .i64 m.f1) ∧ w'.cell? ⟨(ad.add (x * 3)).block, (ad.add (x * 3)).off + 2, none⟩ = some (.slice A3 m.f2.length c3) ∧ Below ((w.alloc (.cells #[.slice A0 P.length c0, .slice (some ad) M.length c1] 25)).alloc (.cells #[.slice none 0 0, .slice none 0 0] 25)).heap.size ((w.alloc (.cells #[.slice A0 P.length c0, .slice (some ad) M.length c1] 25)).alloc (.cells #[.slice none 0 0, .slice none 0 0] 25)) w')) (ds := [7]) #[false, false, false, false, false, false, false, false, false] (by kernel_rfl) rfl rfl (held.out _ (below_drew1 (Below.refl _ _))) (fun hHeld => ?_)
      refine take_ (i := 0) (N := some 21) (v := ?_) (a' := ?_) #[true, false, false, false, false, false, false, false, false] rfl rfl (by kernel_rfl) (fun _ _ _ h => h) (Or.inl ⟨by rfl, ?_⟩) hHeld ?_ ?_
      rotate_left; (rintro w' ⟨s0, s1, s2, s3, s4, s5⟩; go_simp; with_reducible rfl); rotate_left; (simp only [Act.put, sA, sZ, sS, i64_w, i32_w]; rfl)
      refine pure_ (i := 1) (N := some 22) (v := ?_) (a' := ?_) #[true, true, false, false, false, false, false, false, false] rfl rfl (by kernel_rfl) (fun _ _ _ h => h) (Or.inl ⟨by rfl, ?_⟩) ?_ ?_
      rotate_left; (intro w'; go_simp; with_reducible rfl); rotate_left; (simp only [Act.put, sA, sZ, sS, i64_w, i32_w]; rfl)
      refine take_ (i := 2) (N := some 23) (v := ?_) (a' := ?_) #[true, true, true, false, false, false, false, false, false] rfl rfl (by kernel_rfl) (fun _ _ _ h => h) (Or.inl ⟨by rfl, ?_⟩) hHeld ?_ ?_
      rotate_left; (rintro w' ⟨s0, s1, s2, s3, s4, s5⟩; go_simp; with_reducible rfl); rotate_left; (simp only [Act.put, sA, sZ, sS, i64_w, i32_w]; rfl)
      refine pure_ (i := 3) (N := some 24) (v := ?_) (a' := ?_) #[true, true, true, true, false, false, false, false, false] rfl rfl (by kernel_rfl) (fun _ _ _ h => h) (Or.inl ⟨by rfl, ?_⟩) ?_ ?_
      rotate_left; (intro w'; go_simp; with_reducible rfl); rotate_left; (simp only [Act.put, sA, sZ, sS, i64_w, i32_w]; rfl)
      refine pure_ (i := 4) (N := some 25) (v := ?_) (a' := ?_) #[true, true, true, true, true, false, false, false, false] rfl rfl (by kernel_rfl) (fun _ _ _ h => h) (Or.inl ⟨by rfl, ?_⟩) ?_ ?_
      rotate_left; (intro w'; go_simp; with_reducible rfl); rotate_left; (simp only [Act.put, sA, sZ, sS, i64_w, i32_w]; rfl)
      refine take_ (i := 5) (N := some 26) (v := ?_) (a' := ?_) #[true, true, true, true, true, true, false, false, false] rfl rfl (by kernel_rfl) (fun _ _ _ h => h) (Or.inl ⟨by rfl, ?_⟩) hHeld ?_ ?_
      rotate_left; (rintro w' ⟨s0, s1, s2, s3, s4, s5⟩; go_simp; with_reducible rfl); rotate_left; (simp only [Act.put, sA, sZ, sS, i64_w, i32_w]; rfl)
      refine one_ (i := 6) (N := some 27) #[true, true, true, true, true, true, true, false, false] rfl rfl (by kernel_rfl) (by decide) (fun K hK => ?_)
      refine goes_ Try.func45 (by kernel_rfl) rfl #[.agg #[.slice A0 P.length c0, .slice (some ad) M.length c1], .agg #[.int .i64 m.f0, .int .i64 m.f1, .slice A3 m.f2.length c3]] (by rfl) rfl rfl (by (try simp only [List.map_toArray, List.map_cons, List.map_nil]); first | done | rfl) ?_
      refine (HCL.out _ (below_drew1 (Below.refl _ _))).mono ?_
      rintro e w1 ⟨B1, d1, rfl, hN1, hb0⟩
      have hb1 := below_step (below_drew1 (Below.refl _ _)) hb0
      refine ⟨_, rfl, ?_⟩
      refine hK.out _ _ (held.out _ hb1) (fun hHeld => ?_)
      clear hK K
      refine norm_ (a' := ?_) ?_ ?_
      rotate_left
      · simp only [Act.put, sA, sZ, sS, i64_w, i32_w]
        rfl
      refine last_ (i := 7) (N := none) #[true, true, true, true, true, true, true, true, false] rfl rfl (by kernel_rfl) (by decide) (fun K hK => ?_)
      have u2 := (blk_cell (blk_below hV1 hb1) 0).trans rfl
      have u3 := (blk_cell (blk_below hV1 hb1) 1).trans rfl
      have u4 := blk_frozen (blk_below hV1 hb1) 0
      have u5 := blk_frozen (blk_below hV1 hb1) 1
      refine skip_ (w1 := ?_) (by rfl) rfl ?_ ?_
      rotate_left
      · go_simp
        rfl
      refine hK.out _ _ ?_
      clear hK K
      refine pure_ (i := 8) (N := some 5) (v := ?_) (a' := ?_) #[true, true, true, true, true, true, true, true, true] rfl rfl (by kernel_rfl) (fun _ _ _ h => h) (Or.inl ⟨by rfl, ?_⟩) ?_ ?_
      rotate_left; (intro w'; go_simp; with_reducible rfl); rotate_left; (simp only [Act.put, sA, sZ, sS, i64_w, i32_w]; rfl)
      refine done_ (by kernel_rfl) ?_
      have hVs := HVS.out
      have hr1 := blk_below hV1 hb1
      have hbb := below_step hB hb1
      have u4 := blk_frozen hr1 0
      have hb8 := below_set (g := w.heap.size + 1) (j := 1) (v := .slice B1 (M.length + 1) d1) (below_set (g := w.heap.size + 1) (j := 0) (v := .slice A0 P.length c0) hbb (by omega)) (by omega)
      have hN8 := (hN1.far (p := ⟨w.heap.size + 1, 0, none⟩) (fun k hk => by rcases hk with ⟨_, hk⟩ | hk <;> (dsimp only; omega)) (.slice A0 P.length c0)).far (p := ⟨w.heap.size + 1, 1, none⟩) (fun k hk => by rcases hk with ⟨_, hk⟩ | hk <;> (dsimp only; omega)) (.slice B1 (M.length + 1) d1)
      try go_wp2_with fail
      refine bodyPost_ret (results_list (rs := [.cell 4 25, .tmp 5]) rfl (by simp) (.cell (w.heap.size + 1) 25 #[(.slice A0 P.length c0), (.slice B1 (M.length + 1) d1)] (0, 0) _ rfl (blk_set (blk_set hr1 0 _) 1 _) Try.underlying25 rfl (by kernel_rfl) (.tmp .nil))) rfl ?_
      exact ⟨_, _, B1, d1, (by first | rfl | (rw [List.length_append, List.length_singleton]; rfl)), hN8.mono (fun k hk => by rcases hk with hk | hk; exact hk.1; exact hfr k (by omega)), hb8⟩
  | false =>
    have hl : copyP P M i = ([], [], 8) := by unfold copyP; rw [hi]; rfl
    rw [hl]
    clear hl
    have y0 := (blk_cell hV0 0).trans rfl
    have y1 := (blk_cell hV0 1).trans rfl
    by_cases h0 : i < 0
    · go_enter Try.func34, Try.ntmps34
      go_wp2_with fail
      refine bodyPost_ret (results_list (rs := [.cell 4 25, .tmp 5]) rfl (by simp) (.cell (w.heap.size + 1) 25 #[.slice none 0 0, .slice none 0 0] (0, 0) _ rfl hV1 Try.underlying25 rfl (by kernel_rfl) (.tmp .nil))) rfl ?_
      exact ⟨none, 0, none, 0, rfl, NF.nil _ _, hB⟩
    · have h1 : (M.length : Int) ≤ i := by
        have h := hi
        unfold indexP at h
        rw [decide_eq_false_iff_not] at h
        omega
      go_enter Try.func34, Try.ntmps34
      go_wp2_with fail
      refine bodyPost_ret (results_list (rs := [.cell 4 25, .tmp 5]) rfl (by simp) (.cell (w.heap.size + 1) 25 #[.slice none 0 0, .slice none 0 0] (0, 0) _ rfl hV1 Try.underlying25 rfl (by kernel_rfl) (.tmp .nil))) rfl ?_
      exact ⟨none, 0, none, 0, rfl, NF.nil _ _, hB⟩
set_option maxHeartbeats 6400000 in
set_option maxRecDepth 100000 in
theorem r_send (HN : NF w ok A0 c0 P A1 c1 M) (hfr : ∀ k, w.heap.size ≤ k → ok k) (hM : M.length ≤ 1000) (f t : Int) (body : List Int) (hr : Kd.C (Kd.int .u8) w A body.length body) (hc : body.length ≤ c) (hbo : body.length ≤ 1000000) :
    Calls Try.prog 31 #[.agg #[.slice A0 P.length c0, .slice A1 M.length c1], .int .i64 f, .int .i64 t, .slice A body.length c] w (RefNet w ok (sendP P M f t body).1 (sendP P M f t body).2.1 (sendP P M f t body).2.2) := by
  have hV1 := blk_alloc (blk_next w (.cells #[.slice A0 P.length c0, .slice A1 M.length c1] 25) #[.slice none 0 0, .slice none 0 0] 25) (.cells #[.int .i64 f, .int .i64 t, .slice A body.length c] 39)
  have hV0 := blk_alloc (blk_alloc (blk_new w (.cells #[.slice A0 P.length c0, .slice A1 M.length c1] 25)) (.cells #[.slice none 0 0, .slice none 0 0] 25)) (.cells #[.int .i64 f, .int .i64 t, .slice A body.length c] 39)
  have hVm := blk_next2 w (.cells #[.slice A0 P.length c0, .slice A1 M.length c1] 25) (.cells #[.slice none 0 0, .slice none 0 0] 25) #[.int .i64 f, .int .i64 t, .slice A body.length c] 39
  have hB : Below w.heap.size w (((w.alloc (.cells #[.slice A0 P.length c0, .slice A1 M.length c1] 25)).alloc (.cells #[.slice none 0 0, .slice none 0 0] 25)).alloc (.cells #[.int .i64 f, .int .i64 t, .slice A body.length c] 39)) := below_alloc (below_alloc (below_alloc (Below.refl _ _) _) _) _
  have hVs : (((w.alloc (.cells #[.slice A0 P.length c0, .slice A1 M.length c1] 25)).alloc (.cells #[.slice none 0 0, .slice none 0 0] 25)).alloc (.cells #[.int .i64 f, .int .i64 t, .slice A body.length c] 39)).heap.size = w.heap.size + 3 := by simp
  have HV0 := Lib.hid hV0
  have HV1 := Lib.hid hV1
  have HVm := Lib.hid hVm
  have HB := Lib.hid hB
  have HVS := Lib.hid hVs
  have HR := Lib.hid hr
  have y0 := (blk_cell hV0 0).trans rfl
  have y1 := (blk_cell hV0 1).trans rfl
  have z0 := (blk_cell hVm 0).trans rfl
  have z1 := (blk_cell hVm 1).trans rfl
  have z2 := (blk_cell hVm 2).trans rfl
  have hms := skiarearef58_message.calls 5 A0 c0 P A1 c1 M f t A c body (msgP P f t body) _ (HN.nc.below hB).p.1 HN.p.2 (HN.nc.below hB).m.1 HN.m.2 (Kd.C_below hr hB) hc (refmessage_f P M f t body 5 (by omega))
  clear hV0 hV1 hVm hB hVs hr
  by_cases h0 : msgP P f t body = 0
  · have q0 : (msgP P f t body != 0) = false := by rw [h0]; rfl
    by_cases h2 : 256 ≤ M.length
    · have hl : sendP P M f t body = ([], [], 9) := by unfold sendP; rw [if_pos h0, if_pos h2]
      rw [hl]
      clear hl
      go_enter Try.func31, Try.ntmps31
      go_wp2_with fail
      refine hms.mono ?_
      rintro e w1 ⟨rfl, hb1⟩
      clear hms y0 y1 z0 z1 z2
      have hV0 := blk_below HV0.out hb1
      have hV1 := blk_below HV1.out hb1
      have hVm := blk_below HVm.out hb1
      have hB := below_step HB.out hb1
      have HNW := HN.bound.below hB
      have hws : w.heap.size + 3 ≤ w1.heap.size := by have h1 := hb1.size; have h2 := HVS.out; omega
      have y0 := (blk_cell hV0 0).trans rfl
      have y1 := (blk_cell hV0 1).trans rfl
      have z0 := (blk_cell hVm 0).trans rfl
      have z1 := (blk_cell hVm 1).trans rfl
      have z2 := (blk_cell hVm 2).trans rfl
      have u2 := (blk_cell hV1 0).trans rfl
      have u3 := (blk_cell hV1 1).trans rfl
      have u4 := blk_frozen hV1 0
      have u5 := blk_frozen hV1 1
      have q4 : (256 : Int) ≤ (M.length : Int) := by omega
      have hb8 := below_set (g := w.heap.size + 1) (j := 1) (v := .slice none 0 0) (below_set (g := w.heap.size + 1) (j := 0) (v := .slice none 0 0) hB (by omega)) (by omega)
      have H8 := Lib.hid hb8
      have HR1 := Lib.hid (blk_set (blk_set hV1 0 (.slice none 0 0)) 1 (.slice none 0 0))
      clear hb8 hV0 hV1 hVm hB hb1
      go_wp2_with fail
      refine bodyPost_ret (results_list (rs := [.cell 8 25, .tmp 9]) rfl (by simp) (.cell (w.heap.size + 1) 25 #[.slice none 0 0, .slice none 0 0] (0, 0) _ rfl HR1.out Try.underlying25 rfl (by kernel_rfl) (.tmp .nil))) rfl ?_
      exact ⟨none, 0, none, 0, rfl, NF.nil _ _, H8.out⟩
    · have hl : sendP P M f t body = (P, M ++ [⟨f, t, body⟩], 0) := by unfold sendP; rw [if_pos h0, if_neg h2]
      rw [hl]
      clear hl
      go_enter Try.func31, Try.ntmps31
      go_wp2_with fail
      refine hms.mono ?_
      rintro e w1 ⟨rfl, hb1⟩
      clear hms y0 y1 z0 z1 z2
      have hV0 := blk_below HV0.out hb1
      have hV1 := blk_below HV1.out hb1
      have hVm := blk_below HVm.out hb1
      have hB := below_step HB.out hb1
      have HNW := HN.bound.below hB
      have hws : w.heap.size + 3 ≤ w1.heap.size := by have h1 := hb1.size; have h2 := HVS.out; omega
      have y0 := (blk_cell hV0 0).trans rfl
      have y1 := (blk_cell hV0 1).trans rfl
      have z0 := (blk_cell hVm 0).trans rfl
      have z1 := (blk_cell hVm 1).trans rfl
      have z2 := (blk_cell hVm 2).trans rfl
      have u2 := (blk_cell hV1 0).trans rfl
      have u3 := (blk_cell hV1 1).trans rfl
      have u4 := blk_frozen hV1 0
      have u5 := blk_frozen hV1 1
      have q4 : ¬ ((256 : Int) ≤ (M.length : Int)) := by omega
      have hcl := c_add (HNW.mono (ok' := fun k => (ok k ∧ k < w.heap.size) ∨ w1.heap.size ≤ k) (fun k hk => .inl hk)) (fun k hk => .inr hk) f t body (Kd.C_below HR.out hB) hc hM hbo
      have HV1' := Lib.hid hV1
      have HB' := Lib.hid hB
      clear hV0 hV1 hVm hB hb1
      go_wp2_with fail
      refine hcl.mono ?_
      rintro e w2 ⟨B1, d1, rfl, hN1, hb2⟩
      clear hcl y0 y1 z0 z1 z2 u2 u3 u4 u5
      have hr1 := blk_below HV1'.out hb2
      have hbb := below_step HB'.out hb2
      have u2 := (blk_cell hr1 0).trans rfl
      have u3 := (blk_cell hr1 1).trans rfl
      have u4 := blk_frozen hr1 0
      have u5 := blk_frozen hr1 1
      go_wp2_with fail
      have hb8 := below_set (g := w.heap.size + 1) (j := 1) (v := .slice B1 (M.length + 1) d1) (below_set (g := w.heap.size + 1) (j := 0) (v := .slice A0 P.length c0) hbb (by omega)) (by omega)
      have hN8 := (hN1.far (p := ⟨w.heap.size + 1, 0, none⟩) (fun k hk => by rcases hk with ⟨_, hk⟩ | hk <;> (dsimp only; omega)) (.slice A0 P.length c0)).far (p := ⟨w.heap.size + 1, 1, none⟩) (fun k hk => by rcases hk with ⟨_, hk⟩ | hk <;> (dsimp only; omega)) (.slice B1 (M.length + 1) d1)
      refine bodyPost_ret (results_list (rs := [.cell 8 25, .tmp 9]) rfl (by simp) (.cell (w.heap.size + 1) 25 #[.slice A0 P.length c0, .slice B1 (M.length + 1) d1] (0, 0) _ rfl (blk_set (blk_set hr1 0 _) 1 _) Try.underlying25 rfl (by kernel_rfl) (.tmp .nil))) rfl ?_
      exact ⟨A0, c0, B1, d1, (by first | rfl | (rw [List.length_append, List.length_singleton]; rfl)), hN8.mono (fun k hk => by rcases hk with hk | hk; exact hk.1; exact hfr k (by omega)), hb8⟩
  · have q0 : (msgP P f t body != 0) = true := by simpa using h0
    have hl : sendP P M f t body = ([], [], msgP P f t body) := by unfold sendP; rw [if_neg h0]
    rw [hl]
    clear hl
    go_enter Try.func31, Try.ntmps31
    go_wp2_with fail
    refine hms.mono ?_
    rintro e w1 ⟨rfl, hb1⟩
    clear hms y0 y1 z0 z1 z2
    have hV0 := blk_below HV0.out hb1
    have hV1 := blk_below HV1.out hb1
    have hVm := blk_below HVm.out hb1
    have hB := below_step HB.out hb1
    have HNW := HN.bound.below hB
    have hws : w.heap.size + 3 ≤ w1.heap.size := by have h1 := hb1.size; have h2 := HVS.out; omega
    have y0 := (blk_cell hV0 0).trans rfl
    have y1 := (blk_cell hV0 1).trans rfl
    have z0 := (blk_cell hVm 0).trans rfl
    have z1 := (blk_cell hVm 1).trans rfl
    have z2 := (blk_cell hVm 2).trans rfl
    have u2 := (blk_cell hV1 0).trans rfl
    have u3 := (blk_cell hV1 1).trans rfl
    have u4 := blk_frozen hV1 0
    have u5 := blk_frozen hV1 1
    have hb8 := below_set (g := w.heap.size + 1) (j := 1) (v := .slice none 0 0) (below_set (g := w.heap.size + 1) (j := 0) (v := .slice none 0 0) hB (by omega)) (by omega)
    have H8 := Lib.hid hb8
    have HR1 := Lib.hid (blk_set (blk_set hV1 0 (.slice none 0 0)) 1 (.slice none 0 0))
    clear hb8 hV0 hV1 hVm hB hb1
    go_wp2_with fail
    refine bodyPost_ret (results_list (rs := [.cell 8 25, .tmp 9]) rfl (by simp) (.cell (w.heap.size + 1) 25 #[.slice none 0 0, .slice none 0 0] (0, 0) _ rfl HR1.out Try.underlying25 rfl (by kernel_rfl) (.tmp .nil))) rfl ?_
    exact ⟨none, 0, none, 0, rfl, NF.nil _ _, H8.out⟩
set_option maxHeartbeats 6400000 in
set_option maxRecDepth 100000 in
theorem r_split (HN : NF w ok A0 c0 P A1 c1 M) (hfr : ∀ k, w.heap.size ≤ k → ok k) (hS : Small P M) (l : List Int) (hr : Kd.C (Kd.int .i64) w A l.length l) (hc : l.length ≤ c) :
    Calls Try.prog 35 #[.agg #[.slice A0 P.length c0, .slice A1 M.length c1], .slice A l.length c] w (RefNet w ok (splitP P M l).1 (splitP P M l).2.1 (splitP P M l).2.2) := by
  have hP := hS.1
  have hVs : ((w.alloc (.cells #[.slice A0 P.length c0, .slice A1 M.length c1] 25)).alloc (.cells #[.slice none 0 0, .slice none 0 0] 25)).heap.size = w.heap.size + 2 := by simp
  have hV0 := blk_alloc (blk_new w (.cells #[.slice A0 P.length c0, .slice A1 M.length c1] 25)) (.cells #[.slice none 0 0, .slice none 0 0] 25)
  have hV1 := blk_next w (.cells #[.slice A0 P.length c0, .slice A1 M.length c1] 25) #[.slice none 0 0, .slice none 0 0] 25
  have hB : Below w.heap.size w ((w.alloc (.cells #[.slice A0 P.length c0, .slice A1 M.length c1] 25)).alloc (.cells #[.slice none 0 0, .slice none 0 0] 25)) := below_alloc (below_alloc (Below.refl _ _) _) _
  have HNV := (HN.bound.below hB).mono (ok' := fun k => (ok k ∧ k < w.heap.size) ∨ ((w.alloc (.cells #[.slice A0 P.length c0, .slice A1 M.length c1] 25)).alloc (.cells #[.slice none 0 0, .slice none 0 0] 25)).heap.size ≤ k) (fun k hk => .inl hk)
  have y0 := (blk_cell hV0 0).trans rfl
  have y1 := (blk_cell hV0 1).trans rfl
  have HR := Lib.hid (Kd.C_below hr hB)
  clear HNV
  by_cases h0 : l.length = P.length
  · have q0 : ((l.length : Int) != (P.length : Int)) = false := by rw [h0]; simp
    have hpc := skiarearef58_parts.calls 1001 A c l (l.all okPart) _ HR.out hc (refparts_f l (by omega) 1001 (by omega))
    have H0 := Lib.hid h0
    have HV0 := Lib.hid hV0
    have HV1 := Lib.hid hV1
    have HB := Lib.hid hB
    have HVS := Lib.hid hVs
    clear hV0 hV1 hB hVs h0
    cases h2 : l.all okPart with
    | false =>
      rw [h2] at hpc
      have hl : splitP P M l = ([], [], 1) := by unfold splitP; rw [if_neg (by rintro ⟨_, h⟩; rw [h2] at h; cases h)]
      rw [hl]
      clear hl
      go_enter Try.func35, Try.ntmps35
      go_wp2_with fail
      refine hpc.mono ?_
      rintro e w1 ⟨rfl, hd1⟩
      have hb1 := Drawn0.below hd1
      clear hpc y0 y1 hd1
      have hV0 := blk_below HV0.out hb1
      have hV1 := blk_below HV1.out hb1
      have hB := below_step HB.out hb1
      have hws : w.heap.size + 2 ≤ w1.heap.size := by have h1 := hb1.size; have h2 := HVS.out; omega
      have y0 := (blk_cell hV0 0).trans rfl
      have y1 := (blk_cell hV0 1).trans rfl
      have u2 := (blk_cell hV1 0).trans rfl
      have u3 := (blk_cell hV1 1).trans rfl
      have u4 := blk_frozen hV1 0
      have u5 := blk_frozen hV1 1
      have z0 := blk_frozen hV0 0
      clear hb1
      have hb8 := below_set (g := w.heap.size + 1) (j := 1) (v := .slice none 0 0) (below_set (g := w.heap.size + 1) (j := 0) (v := .slice none 0 0) hB (by omega)) (by omega)
      have H8 := Lib.hid hb8
      have HR1 := Lib.hid (blk_set (blk_set hV1 0 (.slice none 0 0)) 1 (.slice none 0 0))
      clear hb8 hV0 hV1 hB
      go_wp2_with fail
      refine bodyPost_ret (results_list (rs := [.cell 4 25, .tmp 5]) rfl (by simp) (.cell (w.heap.size + 1) 25 #[.slice none 0 0, .slice none 0 0] (0, 0) _ rfl HR1.out Try.underlying25 rfl (by kernel_rfl) (.tmp .nil))) rfl ?_
      exact ⟨none, 0, none, 0, rfl, NF.nil _ _, H8.out⟩
    | true =>
      rw [h2] at hpc
      have hl : splitP P M l = (l, M, 0) := by unfold splitP; rw [if_pos ⟨H0.out, h2⟩]
      rw [hl]
      clear hl
      go_enter Try.func35, Try.ntmps35
      go_wp2_with fail
      refine hpc.mono ?_
      rintro e w1 ⟨rfl, hd1⟩
      have hb1 := Drawn0.below hd1
      clear hpc y0 y1 hd1
      have hV0 := blk_below HV0.out hb1
      have hV1 := blk_below HV1.out hb1
      have hB := below_step HB.out hb1
      have hws : w.heap.size + 2 ≤ w1.heap.size := by have h1 := hb1.size; have h2 := HVS.out; omega
      have y0 := (blk_cell hV0 0).trans rfl
      have y1 := (blk_cell hV0 1).trans rfl
      have u2 := (blk_cell hV1 0).trans rfl
      have u3 := (blk_cell hV1 1).trans rfl
      have u4 := blk_frozen hV1 0
      have u5 := blk_frozen hV1 1
      have z0 := blk_frozen hV0 0
      clear hb1
      have HNW := HN.bound.below hB
      have HRW := Lib.hid (Kd.C_below hr hB)
      have hn1 := hV0
      have hr1 := hV1
      have hB1 := hB
      clear hV0 hV1 hB
      have HB1 := Lib.hid hB1
      have HN1 := Lib.hid hn1
      have HRR := Lib.hid hr1
      clear hn1 hr1 hB1
      go_wp2_with (first
        | ((with_reducible refine gate_dst (N := 18) rfl ?_); refine Kd.R_lit (Kd.int .i64) _ 3 ?hg (N := 18) ?hd (xs := ([] : List Int)) (inner := []) (ok := fun _ => True) (okp := fun _ => True) ?hr ?hp (fun _ hk => hk) trivial (Below.refl _ _) (Nat.le_refl _) (by simp) ?_; (case hd => rfl); (case hg => rfl); (case hr => first | (go_simp; done) | (go_simp; rfl)); (case hp => exact (Reps.none _ _)); intro v5 w3 hR5 hb3 hg_ hnew_; clear hg_ hnew_)
        | ((with_reducible refine gate_builtin (b := .append) (xs := #[.tmp 18, .tmp 19]) rfl ?_); at_builtin; refine Kd.R_append_rows (Kd.int .i64) (w0 := w1) w1.heap.size rfl (.tmp 18) (.tmp 19) 22 3 (.int .i64 0) 8 rfl Try.underlying22 info3 rfl (by decide) (by omega) v5 ([] : List Int) l _ _ _ (fun _ => True) (fun _ => False) rfl rfl hR5 (Kd.C_below HRW.out hb3) (fun _ _ h => h) (fun _ h => h.elim) (fun _ _ => trivial) hb3 hb3.size (by have := H0.out; simp; omega) ?_; intro v8 w4 hR8 hb4 hg4 hat4
           rw [List.nil_append] at hR8
           obtain ⟨A8, c8, rfl⟩ := Kd.R_slice hR8
           have hn4 := blk_below HN1.out hb4
           have hr4 := blk_below HRR.out hb4
           have m3 : w4.cell? ⟨w.heap.size, 0, none⟩ = some (.slice A0 P.length c0) := (blk_cell hn4 0).trans rfl
           have m4 := blk_frozen hn4 0
           have m7 : (w4.setCell ⟨w.heap.size, 0, none⟩ (.slice A8 l.length c8)).cell? ⟨w.heap.size, 0, none⟩ = some (.slice A8 l.length c8) := (blk_cell (blk_set hn4 0 (.slice A8 l.length c8)) 0).trans rfl
           have m8 : (w4.setCell ⟨w.heap.size, 0, none⟩ (.slice A8 l.length c8)).cell? ⟨w.heap.size, 1, none⟩ = some (.slice A1 M.length c1) := (blk_cell (blk_set hn4 0 (.slice A8 l.length c8)) 1).trans rfl
           have hr5 := blk_far (p := ⟨w.heap.size, 0, none⟩) hr4 (by simp) (.slice A8 l.length c8)
           have n2 := (blk_cell hr5 0).trans rfl
           have n3 := (blk_cell hr5 1).trans rfl
           have n4 := blk_frozen hr5 0
           have n5 := blk_frozen hr5 1))
      have hb5 := below_set (g := w.heap.size) (j := 0) (v := .slice A8 l.length c8) (below_step HB1.out hb4) (Nat.le_refl _)
      have hb8 := below_set (g := w.heap.size + 1) (j := 1) (v := .slice A1 M.length c1) (below_set (g := w.heap.size + 1) (j := 0) (v := .slice A8 l.length c8) hb5 (by omega)) (by omega)
      have hpF := Kd.F_far (Kd.F_far (Kd.F_far (Kd.R_F (Kd.R_mono (Kd.R_bound hR8) (ok' := fun k => w.heap.size + 2 ≤ k) (fun k hk => by have h1 := hk.2.1; omega))) (p := ⟨w.heap.size, 0, none⟩) (fun k hk => by dsimp only; omega) (.slice A8 l.length c8)) (p := ⟨w.heap.size + 1, 0, none⟩) (fun k hk => by dsimp only; omega) (.slice A8 l.length c8)) (p := ⟨w.heap.size + 1, 1, none⟩) (fun k hk => by dsimp only; omega) (.slice A1 M.length c1)
      have hmF := Kd.F_far (Kd.F_far (Kd.F_far (Kd.F_below HNW.m.1 hb4) (p := ⟨w.heap.size, 0, none⟩) (fun k hk => by have := hk.2; dsimp only; omega) (.slice A8 l.length c8)) (p := ⟨w.heap.size + 1, 0, none⟩) (fun k hk => by have := hk.2; dsimp only; omega) (.slice A8 l.length c8)) (p := ⟨w.heap.size + 1, 1, none⟩) (fun k hk => by have := hk.2; dsimp only; omega) (.slice A1 M.length c1)
      refine bodyPost_ret (results_list (rs := [.cell 4 25, .tmp 5]) rfl (by simp) (.cell (w.heap.size + 1) 25 #[.slice A8 l.length c8, .slice A1 M.length c1] (0, 0) _ rfl (blk_set (blk_set hr5 0 _) 1 _) Try.underlying25 rfl (by kernel_rfl) (.tmp .nil))) rfl ?_
      exact ⟨A8, c8, A1, c1, rfl, ⟨⟨Kd.F_mono hpF (fun k hk => hfr k (by omega)), (Kd.R_reads' hR8).2.1⟩, ⟨Kd.F_mono hmF (fun k hk => hk.1), HN.m.2⟩⟩, hb8⟩
  · have q0 : ((l.length : Int) != (P.length : Int)) = true := by simp; omega
    have hl : splitP P M l = ([], [], 1) := by unfold splitP; rw [if_neg (by rintro ⟨h, _⟩; exact h0 h)]
    rw [hl]
    clear hl
    go_enter Try.func35, Try.ntmps35
    go_wp2_with fail
    refine bodyPost_ret (results_list (rs := [.cell 4 25, .tmp 5]) rfl (by simp) (.cell (w.heap.size + 1) 25 #[.slice none 0 0, .slice none 0 0] (0, 0) _ rfl hV1 Try.underlying25 rfl (by kernel_rfl) (.tmp .nil))) rfl ?_
    exact ⟨none, 0, none, 0, rfl, NF.nil _ _, hB⟩
set_option maxHeartbeats 6400000 in
set_option maxRecDepth 100000 in
theorem r_can (HN : NC w A0 c0 P A1 c1 M) (a b : Int) : Calls Try.prog 46 #[.agg #[.slice A0 P.length c0, .slice A1 M.length c1], .int .i64 a, .int .i64 b] w (fun e w' => e = .returned (.bool (canP P a b)) ∧ Below w.heap.size w w') := by
  have hn0 := blk_new w (.cells #[.slice A0 P.length c0, .slice A1 M.length c1] 25)
  have hB : Below w.heap.size w (w.alloc (.cells #[.slice A0 P.length c0, .slice A1 M.length c1] 25)) := below_alloc (Below.refl _ _) _
  have HSa := Lib.hid (fun (w' : World) (hb : Below (w.alloc (.cells #[.slice A0 P.length c0, .slice A1 M.length c1] 25)).heap.size (w.alloc (.cells #[.slice A0 P.length c0, .slice A1 M.length c1] 25)) w') => skiarearef58_site.calls A0 c0 P A1 c1 M a (siteP P a) w' ((HN.below hB).below hb).p.1 HN.p.2 ((HN.below hB).below hb).m.1 HN.m.2 (refsite_f P M a))
  have HSb := Lib.hid (fun (w' : World) (hb : Below (w.alloc (.cells #[.slice A0 P.length c0, .slice A1 M.length c1] 25)).heap.size (w.alloc (.cells #[.slice A0 P.length c0, .slice A1 M.length c1] 25)) w') => skiarearef58_site.calls A0 c0 P A1 c1 M b (siteP P b) w' ((HN.below hB).below hb).p.1 HN.p.2 ((HN.below hB).below hb).m.1 HN.m.2 (refsite_f P M b))
  cases ha : siteP P a with
  | false =>
    have hl : canP P a b = false := by unfold canP; rw [ha]; rfl
    rw [hl]
    have held := Lib.hid (fun (w' : World) (hb : Below (w.alloc (.cells #[.slice A0 P.length c0, .slice A1 M.length c1] 25)).heap.size (w.alloc (.cells #[.slice A0 P.length c0, .slice A1 M.length c1] 25)) w') => (show w'.cell? ⟨w.heap.size, 0, none⟩ = some (.slice A0 P.length c0) ∧ w'.cell? ⟨w.heap.size, 1, none⟩ = some (.slice A1 M.length c1) ∧ Below (w.alloc (.cells #[.slice A0 P.length c0, .slice A1 M.length c1] 25)).heap.size (w.alloc (.cells #[.slice A0 P.length c0, .slice A1 M.length c1] 25)) w' from ⟨(blk_cell (blk_below hn0 hb) 0).trans rfl, (blk_cell (blk_below hn0 hb) 1).trans rfl, hb⟩))
    clear hn0
    go_enter Try.func46, Try.ntmps46
    go_wp2_with fail
    refine start_ (n := 22) (S := (fun w' => w'.cell? ⟨w.heap.size, 0, none⟩ = some (.slice A0 P.length c0) ∧ w'.cell? ⟨w.heap.size, 1, none⟩ = some (.slice A1 M.length c1) ∧ Below (w.alloc (.cells #[.slice A0 P.length c0, .slice A1 M.length c1] 25)).heap.size (w.alloc (.cells #[.slice A0 P.length c0, .slice A1 M.length c1] 25)) w')) (ds := []) #[false, false, false, false, false, false, false, false, false, false, false, false, false, false, false, false, false, false, false, false, false, false] (by kernel_rfl) rfl rfl (held.out _ (by repeat (first | assumption | exact Below.refl _ _ | apply below_drew1 | exact below_step (by assumption) (by assumption)))) (fun hHeld => ?_)
    refine take_ (i := 0) (N := some 7) (v := ?_) (a' := ?_) #[true, false, false, false, false, false, false, false, false, false, false, false, false, false, false, false, false, false, false, false, false, false] rfl rfl (by kernel_rfl) (fun _ _ _ h => h) (Or.inl ⟨by rfl, ?_⟩) hHeld ?_ ?_
    rotate_left; (rintro w' ⟨s0, s1, s2⟩; go_simp; with_reducible rfl); rotate_left; (simp only [Act.put, sA, sZ, sS, i64_w, i32_w]; rfl)
    refine pure_ (i := 1) (N := some 8) (v := ?_) (a' := ?_) #[true, true, false, false, false, false, false, false, false, false, false, false, false, false, false, false, false, false, false, false, false, false] rfl rfl (by kernel_rfl) (fun _ _ _ h => h) (Or.inl ⟨by rfl, ?_⟩) ?_ ?_
    rotate_left; (intro w'; go_simp; with_reducible rfl); rotate_left; (simp only [Act.put, sA, sZ, sS, i64_w, i32_w]; rfl)
    refine one_ (i := 2) (N := some 9) #[true, true, true, false, false, false, false, false, false, false, false, false, false, false, false, false, false, false, false, false, false, false] rfl rfl (by kernel_rfl) (by decide) (fun K hK => ?_)
    refine goes_ Try.func44 (by kernel_rfl) rfl #[.agg #[.slice A0 P.length c0, .slice A1 M.length c1], .int .i64 a] (by rfl) rfl rfl (by (try simp only [List.map_toArray, List.map_cons, List.map_nil]); first | done | rfl) ?_
    refine (HSa.out _ (by repeat (first | assumption | exact Below.refl _ _ | apply below_drew1 | exact below_step (by assumption) (by assumption)))).mono ?_
    rintro e w5a ⟨rfl, hb5a⟩
    have hbw5a : Below (w.alloc (.cells #[.slice A0 P.length c0, .slice A1 M.length c1] 25)).heap.size (w.alloc (.cells #[.slice A0 P.length c0, .slice A1 M.length c1] 25)) w5a := below_step (by repeat (first | assumption | exact Below.refl _ _ | apply below_drew1 | exact below_step (by assumption) (by assumption))) hb5a
    rw [ha]
    refine ⟨_, rfl, ?_⟩
    refine hK.out _ _ (held.out _ hbw5a) (fun hHeld => ?_)
    clear hK K
    refine norm_ (a' := ?_) ?_ ?_
    rotate_left
    · simp only [Act.put, sA, sZ, sS, i64_w, i32_w]
      rfl
    refine pure_ (i := 3) (N := some 10) (v := ?_) (a' := ?_) #[true, true, true, true, false, false, false, false, false, false, false, false, false, false, false, false, false, false, false, false, false, false] rfl rfl (by kernel_rfl) (fun _ _ _ h => h) (Or.inl ⟨by rfl, ?_⟩) ?_ ?_
    rotate_left; (intro w'; go_simp; with_reducible rfl); rotate_left; (simp only [Act.put, sA, sZ, sS, i64_w, i32_w]; rfl)
    refine pure_ (i := 4) (N := some 11) (v := undef) (a' := ?_) #[true, true, true, true, true, false, false, false, false, false, false, false, false, false, false, false, false, false, false, false, false, false] rfl rfl (by kernel_rfl) (fun _ _ _ h => h) (Or.inr ⟨by rfl, rfl⟩) ?_ ?_
    rotate_left; (simp only [Act.put, sA, sZ, sS, i64_w, i32_w]; rfl)
    refine pure_ (i := 5) (N := some 12) (v := undef) (a' := ?_) #[true, true, true, true, true, true, false, false, false, false, false, false, false, false, false, false, false, false, false, false, false, false] rfl rfl (by kernel_rfl) (fun _ _ _ h => h) (Or.inr ⟨by rfl, rfl⟩) ?_ ?_
    rotate_left; (simp only [Act.put, sA, sZ, sS, i64_w, i32_w]; rfl)
    refine pure_ (i := 6) (N := some 13) (v := undef) (a' := ?_) #[true, true, true, true, true, true, true, false, false, false, false, false, false, false, false, false, false, false, false, false, false, false] rfl rfl (by kernel_rfl) (fun _ _ _ h => h) (Or.inr ⟨by rfl, rfl⟩) ?_ ?_
    rotate_left; (simp only [Act.put, sA, sZ, sS, i64_w, i32_w]; rfl)
    refine pure_ (i := 7) (N := some 14) (v := ?_) (a' := ?_) #[true, true, true, true, true, true, true, true, false, false, false, false, false, false, false, false, false, false, false, false, false, false] rfl rfl (by kernel_rfl) (fun _ _ _ h => h) (Or.inl ⟨by rfl, ?_⟩) ?_ ?_
    rotate_left; (intro w'; go_simp; with_reducible rfl); rotate_left; (simp only [Act.put, sA, sZ, sS, i64_w, i32_w]; rfl)
    refine pure_ (i := 8) (N := some 15) (v := ?_) (a' := ?_) #[true, true, true, true, true, true, true, true, true, false, false, false, false, false, false, false, false, false, false, false, false, false] rfl rfl (by kernel_rfl) (fun _ _ _ h => h) (Or.inl ⟨by rfl, ?_⟩) ?_ ?_
    rotate_left; (intro w'; go_simp; with_reducible rfl); rotate_left; (simp only [Act.put, sA, sZ, sS, i64_w, i32_w]; rfl)
    refine pure_ (i := 9) (N := some 16) (v := undef) (a' := ?_) #[true, true, true, true, true, true, true, true, true, true, false, false, false, false, false, false, false, false, false, false, false, false] rfl rfl (by kernel_rfl) (fun _ _ _ h => h) (Or.inr ⟨by rfl, rfl⟩) ?_ ?_
    rotate_left; (simp only [Act.put, sA, sZ, sS, i64_w, i32_w]; rfl)
    refine pure_ (i := 10) (N := some 17) (v := undef) (a' := ?_) #[true, true, true, true, true, true, true, true, true, true, true, false, false, false, false, false, false, false, false, false, false, false] rfl rfl (by kernel_rfl) (fun _ _ _ h => h) (Or.inr ⟨by rfl, rfl⟩) ?_ ?_
    rotate_left; (simp only [Act.put, sA, sZ, sS, i64_w, i32_w]; rfl)
    refine pure_ (i := 11) (N := some 18) (v := undef) (a' := ?_) #[true, true, true, true, true, true, true, true, true, true, true, true, false, false, false, false, false, false, false, false, false, false] rfl rfl (by kernel_rfl) (fun _ _ _ h => h) (Or.inr ⟨by rfl, rfl⟩) ?_ ?_
    rotate_left; (simp only [Act.put, sA, sZ, sS, i64_w, i32_w]; rfl)
    refine pure_ (i := 12) (N := some 19) (v := undef) (a' := ?_) #[true, true, true, true, true, true, true, true, true, true, true, true, true, false, false, false, false, false, false, false, false, false] rfl rfl (by kernel_rfl) (fun _ _ _ h => h) (Or.inr ⟨by rfl, rfl⟩) ?_ ?_
    rotate_left; (simp only [Act.put, sA, sZ, sS, i64_w, i32_w]; rfl)
    refine pure_ (i := 13) (N := some 20) (v := undef) (a' := ?_) #[true, true, true, true, true, true, true, true, true, true, true, true, true, true, false, false, false, false, false, false, false, false] rfl rfl (by kernel_rfl) (fun _ _ _ h => h) (Or.inr ⟨by rfl, rfl⟩) ?_ ?_
    rotate_left; (simp only [Act.put, sA, sZ, sS, i64_w, i32_w]; rfl)
    refine pure_ (i := 14) (N := some 21) (v := undef) (a' := ?_) #[true, true, true, true, true, true, true, true, true, true, true, true, true, true, true, false, false, false, false, false, false, false] rfl rfl (by kernel_rfl) (fun _ _ _ h => h) (Or.inr ⟨by rfl, rfl⟩) ?_ ?_
    rotate_left; (simp only [Act.put, sA, sZ, sS, i64_w, i32_w]; rfl)
    refine pure_ (i := 15) (N := some 22) (v := undef) (a' := ?_) #[true, true, true, true, true, true, true, true, true, true, true, true, true, true, true, true, false, false, false, false, false, false] rfl rfl (by kernel_rfl) (fun _ _ _ h => h) (Or.inr ⟨by rfl, rfl⟩) ?_ ?_
    rotate_left; (simp only [Act.put, sA, sZ, sS, i64_w, i32_w]; rfl)
    refine pure_ (i := 16) (N := some 23) (v := undef) (a' := ?_) #[true, true, true, true, true, true, true, true, true, true, true, true, true, true, true, true, true, false, false, false, false, false] rfl rfl (by kernel_rfl) (fun _ _ _ h => h) (Or.inr ⟨by rfl, rfl⟩) ?_ ?_
    rotate_left; (simp only [Act.put, sA, sZ, sS, i64_w, i32_w]; rfl)
    refine pure_ (i := 17) (N := some 24) (v := undef) (a' := ?_) #[true, true, true, true, true, true, true, true, true, true, true, true, true, true, true, true, true, true, false, false, false, false] rfl rfl (by kernel_rfl) (fun _ _ _ h => h) (Or.inr ⟨by rfl, rfl⟩) ?_ ?_
    rotate_left; (simp only [Act.put, sA, sZ, sS, i64_w, i32_w]; rfl)
    refine pure_ (i := 18) (N := some 25) (v := undef) (a' := ?_) #[true, true, true, true, true, true, true, true, true, true, true, true, true, true, true, true, true, true, true, false, false, false] rfl rfl (by kernel_rfl) (fun _ _ _ h => h) (Or.inr ⟨by rfl, rfl⟩) ?_ ?_
    rotate_left; (simp only [Act.put, sA, sZ, sS, i64_w, i32_w]; rfl)
    refine pure_ (i := 19) (N := some 26) (v := undef) (a' := ?_) #[true, true, true, true, true, true, true, true, true, true, true, true, true, true, true, true, true, true, true, true, false, false] rfl rfl (by kernel_rfl) (fun _ _ _ h => h) (Or.inr ⟨by rfl, rfl⟩) ?_ ?_
    rotate_left; (simp only [Act.put, sA, sZ, sS, i64_w, i32_w]; rfl)
    refine pure_ (i := 20) (N := some 27) (v := ?_) (a' := ?_) #[true, true, true, true, true, true, true, true, true, true, true, true, true, true, true, true, true, true, true, true, true, false] rfl rfl (by kernel_rfl) (fun _ _ _ h => h) (Or.inl ⟨by rfl, ?_⟩) ?_ ?_
    rotate_left; (intro w'; go_simp; with_reducible rfl); rotate_left; (simp only [Act.put, sA, sZ, sS, i64_w, i32_w]; rfl)
    refine pure_ (i := 21) (N := some 6) (v := ?_) (a' := ?_) #[true, true, true, true, true, true, true, true, true, true, true, true, true, true, true, true, true, true, true, true, true, true] rfl rfl (by kernel_rfl) (fun _ _ _ h => h) (Or.inl ⟨by rfl, ?_⟩) ?_ ?_
    rotate_left; (intro w'; go_simp; with_reducible rfl); rotate_left; (simp only [Act.put, sA, sZ, sS, i64_w, i32_w]; rfl)
    refine done_ (by kernel_rfl) ?_
    try go_wp2_with fail
    go_ret
    exact ⟨rfl, below_step hB hbw5a⟩
  | true =>
    cases hb : siteP P b with
    | false =>
      have hl : canP P a b = false := by unfold canP; rw [ha, hb]; rfl
      rw [hl]
      have held := Lib.hid (fun (w' : World) (hb : Below (w.alloc (.cells #[.slice A0 P.length c0, .slice A1 M.length c1] 25)).heap.size (w.alloc (.cells #[.slice A0 P.length c0, .slice A1 M.length c1] 25)) w') => (show w'.cell? ⟨w.heap.size, 0, none⟩ = some (.slice A0 P.length c0) ∧ w'.cell? ⟨w.heap.size, 1, none⟩ = some (.slice A1 M.length c1) ∧ Below (w.alloc (.cells #[.slice A0 P.length c0, .slice A1 M.length c1] 25)).heap.size (w.alloc (.cells #[.slice A0 P.length c0, .slice A1 M.length c1] 25)) w' from ⟨(blk_cell (blk_below hn0 hb) 0).trans rfl, (blk_cell (blk_below hn0 hb) 1).trans rfl, hb⟩))
      clear hn0
      go_enter Try.func46, Try.ntmps46
      go_wp2_with fail
      refine start_ (n := 22) (S := (fun w' => w'.cell? ⟨w.heap.size, 0, none⟩ = some (.slice A0 P.length c0) ∧ w'.cell? ⟨w.heap.size, 1, none⟩ = some (.slice A1 M.length c1) ∧ Below (w.alloc (.cells #[.slice A0 P.length c0, .slice A1 M.length c1] 25)).heap.size (w.alloc (.cells #[.slice A0 P.length c0, .slice A1 M.length c1] 25)) w')) (ds := []) #[false, false, false, false, false, false, false, false, false, false, false, false, false, false, false, false, false, false, false, false, false, false] (by kernel_rfl) rfl rfl (held.out _ (by repeat (first | assumption | exact Below.refl _ _ | apply below_drew1 | exact below_step (by assumption) (by assumption)))) (fun hHeld => ?_)
      refine take_ (i := 0) (N := some 7) (v := ?_) (a' := ?_) #[true, false, false, false, false, false, false, false, false, false, false, false, false, false, false, false, false, false, false, false, false, false] rfl rfl (by kernel_rfl) (fun _ _ _ h => h) (Or.inl ⟨by rfl, ?_⟩) hHeld ?_ ?_
      rotate_left; (rintro w' ⟨s0, s1, s2⟩; go_simp; with_reducible rfl); rotate_left; (simp only [Act.put, sA, sZ, sS, i64_w, i32_w]; rfl)
      refine pure_ (i := 1) (N := some 8) (v := ?_) (a' := ?_) #[true, true, false, false, false, false, false, false, false, false, false, false, false, false, false, false, false, false, false, false, false, false] rfl rfl (by kernel_rfl) (fun _ _ _ h => h) (Or.inl ⟨by rfl, ?_⟩) ?_ ?_
      rotate_left; (intro w'; go_simp; with_reducible rfl); rotate_left; (simp only [Act.put, sA, sZ, sS, i64_w, i32_w]; rfl)
      refine one_ (i := 2) (N := some 9) #[true, true, true, false, false, false, false, false, false, false, false, false, false, false, false, false, false, false, false, false, false, false] rfl rfl (by kernel_rfl) (by decide) (fun K hK => ?_)
      refine goes_ Try.func44 (by kernel_rfl) rfl #[.agg #[.slice A0 P.length c0, .slice A1 M.length c1], .int .i64 a] (by rfl) rfl rfl (by (try simp only [List.map_toArray, List.map_cons, List.map_nil]); first | done | rfl) ?_
      refine (HSa.out _ (by repeat (first | assumption | exact Below.refl _ _ | apply below_drew1 | exact below_step (by assumption) (by assumption)))).mono ?_
      rintro e w5a ⟨rfl, hb5a⟩
      have hbw5a : Below (w.alloc (.cells #[.slice A0 P.length c0, .slice A1 M.length c1] 25)).heap.size (w.alloc (.cells #[.slice A0 P.length c0, .slice A1 M.length c1] 25)) w5a := below_step (by repeat (first | assumption | exact Below.refl _ _ | apply below_drew1 | exact below_step (by assumption) (by assumption))) hb5a
      rw [ha]
      refine ⟨_, rfl, ?_⟩
      refine hK.out _ _ (held.out _ hbw5a) (fun hHeld => ?_)
      clear hK K
      refine norm_ (a' := ?_) ?_ ?_
      rotate_left
      · simp only [Act.put, sA, sZ, sS, i64_w, i32_w]
        rfl
      refine pure_ (i := 3) (N := some 10) (v := ?_) (a' := ?_) #[true, true, true, true, false, false, false, false, false, false, false, false, false, false, false, false, false, false, false, false, false, false] rfl rfl (by kernel_rfl) (fun _ _ _ h => h) (Or.inl ⟨by rfl, ?_⟩) ?_ ?_
      rotate_left; (intro w'; go_simp; with_reducible rfl); rotate_left; (simp only [Act.put, sA, sZ, sS, i64_w, i32_w]; rfl)
      refine take_ (i := 4) (N := some 11) (v := ?_) (a' := ?_) #[true, true, true, true, true, false, false, false, false, false, false, false, false, false, false, false, false, false, false, false, false, false] rfl rfl (by kernel_rfl) (fun _ _ _ h => h) (Or.inl ⟨by rfl, ?_⟩) hHeld ?_ ?_
      rotate_left; (rintro w' ⟨s0, s1, s2⟩; go_simp; with_reducible rfl); rotate_left; (simp only [Act.put, sA, sZ, sS, i64_w, i32_w]; rfl)
      refine pure_ (i := 5) (N := some 12) (v := ?_) (a' := ?_) #[true, true, true, true, true, true, false, false, false, false, false, false, false, false, false, false, false, false, false, false, false, false] rfl rfl (by kernel_rfl) (fun _ _ _ h => h) (Or.inl ⟨by rfl, ?_⟩) ?_ ?_
      rotate_left; (intro w'; go_simp; with_reducible rfl); rotate_left; (simp only [Act.put, sA, sZ, sS, i64_w, i32_w]; rfl)
      refine one_ (i := 6) (N := some 13) #[true, true, true, true, true, true, true, false, false, false, false, false, false, false, false, false, false, false, false, false, false, false] rfl rfl (by kernel_rfl) (by decide) (fun K hK => ?_)
      refine goes_ Try.func44 (by kernel_rfl) rfl #[.agg #[.slice A0 P.length c0, .slice A1 M.length c1], .int .i64 b] (by rfl) rfl rfl (by (try simp only [List.map_toArray, List.map_cons, List.map_nil]); first | done | rfl) ?_
      refine (HSb.out _ (by repeat (first | assumption | exact Below.refl _ _ | apply below_drew1 | exact below_step (by assumption) (by assumption)))).mono ?_
      rintro e w5b ⟨rfl, hb5b⟩
      have hbw5b : Below (w.alloc (.cells #[.slice A0 P.length c0, .slice A1 M.length c1] 25)).heap.size (w.alloc (.cells #[.slice A0 P.length c0, .slice A1 M.length c1] 25)) w5b := below_step (by repeat (first | assumption | exact Below.refl _ _ | apply below_drew1 | exact below_step (by assumption) (by assumption))) hb5b
      rw [hb]
      refine ⟨_, rfl, ?_⟩
      refine hK.out _ _ (held.out _ hbw5b) (fun hHeld => ?_)
      clear hK K
      refine norm_ (a' := ?_) ?_ ?_
      rotate_left
      · simp only [Act.put, sA, sZ, sS, i64_w, i32_w]
        rfl
      refine pure_ (i := 7) (N := some 14) (v := ?_) (a' := ?_) #[true, true, true, true, true, true, true, true, false, false, false, false, false, false, false, false, false, false, false, false, false, false] rfl rfl (by kernel_rfl) (fun _ _ _ h => h) (Or.inl ⟨by rfl, ?_⟩) ?_ ?_
      rotate_left; (intro w'; go_simp; with_reducible rfl); rotate_left; (simp only [Act.put, sA, sZ, sS, i64_w, i32_w]; rfl)
      refine pure_ (i := 8) (N := some 15) (v := ?_) (a' := ?_) #[true, true, true, true, true, true, true, true, true, false, false, false, false, false, false, false, false, false, false, false, false, false] rfl rfl (by kernel_rfl) (fun _ _ _ h => h) (Or.inl ⟨by rfl, ?_⟩) ?_ ?_
      rotate_left; (intro w'; go_simp; with_reducible rfl); rotate_left; (simp only [Act.put, sA, sZ, sS, i64_w, i32_w]; rfl)
      refine pure_ (i := 9) (N := some 16) (v := undef) (a' := ?_) #[true, true, true, true, true, true, true, true, true, true, false, false, false, false, false, false, false, false, false, false, false, false] rfl rfl (by kernel_rfl) (fun _ _ _ h => h) (Or.inr ⟨by rfl, rfl⟩) ?_ ?_
      rotate_left; (simp only [Act.put, sA, sZ, sS, i64_w, i32_w]; rfl)
      refine pure_ (i := 10) (N := some 17) (v := undef) (a' := ?_) #[true, true, true, true, true, true, true, true, true, true, true, false, false, false, false, false, false, false, false, false, false, false] rfl rfl (by kernel_rfl) (fun _ _ _ h => h) (Or.inr ⟨by rfl, rfl⟩) ?_ ?_
      rotate_left; (simp only [Act.put, sA, sZ, sS, i64_w, i32_w]; rfl)
      refine pure_ (i := 11) (N := some 18) (v := undef) (a' := ?_) #[true, true, true, true, true, true, true, true, true, true, true, true, false, false, false, false, false, false, false, false, false, false] rfl rfl (by kernel_rfl) (fun _ _ _ h => h) (Or.inr ⟨by rfl, rfl⟩) ?_ ?_
      rotate_left; (simp only [Act.put, sA, sZ, sS, i64_w, i32_w]; rfl)
      refine pure_ (i := 12) (N := some 19) (v := undef) (a' := ?_) #[true, true, true, true, true, true, true, true, true, true, true, true, true, false, false, false, false, false, false, false, false, false] rfl rfl (by kernel_rfl) (fun _ _ _ h => h) (Or.inr ⟨by rfl, rfl⟩) ?_ ?_
      rotate_left; (simp only [Act.put, sA, sZ, sS, i64_w, i32_w]; rfl)
      refine pure_ (i := 13) (N := some 20) (v := undef) (a' := ?_) #[true, true, true, true, true, true, true, true, true, true, true, true, true, true, false, false, false, false, false, false, false, false] rfl rfl (by kernel_rfl) (fun _ _ _ h => h) (Or.inr ⟨by rfl, rfl⟩) ?_ ?_
      rotate_left; (simp only [Act.put, sA, sZ, sS, i64_w, i32_w]; rfl)
      refine pure_ (i := 14) (N := some 21) (v := undef) (a' := ?_) #[true, true, true, true, true, true, true, true, true, true, true, true, true, true, true, false, false, false, false, false, false, false] rfl rfl (by kernel_rfl) (fun _ _ _ h => h) (Or.inr ⟨by rfl, rfl⟩) ?_ ?_
      rotate_left; (simp only [Act.put, sA, sZ, sS, i64_w, i32_w]; rfl)
      refine pure_ (i := 15) (N := some 22) (v := undef) (a' := ?_) #[true, true, true, true, true, true, true, true, true, true, true, true, true, true, true, true, false, false, false, false, false, false] rfl rfl (by kernel_rfl) (fun _ _ _ h => h) (Or.inr ⟨by rfl, rfl⟩) ?_ ?_
      rotate_left; (simp only [Act.put, sA, sZ, sS, i64_w, i32_w]; rfl)
      refine pure_ (i := 16) (N := some 23) (v := undef) (a' := ?_) #[true, true, true, true, true, true, true, true, true, true, true, true, true, true, true, true, true, false, false, false, false, false] rfl rfl (by kernel_rfl) (fun _ _ _ h => h) (Or.inr ⟨by rfl, rfl⟩) ?_ ?_
      rotate_left; (simp only [Act.put, sA, sZ, sS, i64_w, i32_w]; rfl)
      refine pure_ (i := 17) (N := some 24) (v := undef) (a' := ?_) #[true, true, true, true, true, true, true, true, true, true, true, true, true, true, true, true, true, true, false, false, false, false] rfl rfl (by kernel_rfl) (fun _ _ _ h => h) (Or.inr ⟨by rfl, rfl⟩) ?_ ?_
      rotate_left; (simp only [Act.put, sA, sZ, sS, i64_w, i32_w]; rfl)
      refine pure_ (i := 18) (N := some 25) (v := undef) (a' := ?_) #[true, true, true, true, true, true, true, true, true, true, true, true, true, true, true, true, true, true, true, false, false, false] rfl rfl (by kernel_rfl) (fun _ _ _ h => h) (Or.inr ⟨by rfl, rfl⟩) ?_ ?_
      rotate_left; (simp only [Act.put, sA, sZ, sS, i64_w, i32_w]; rfl)
      refine pure_ (i := 19) (N := some 26) (v := undef) (a' := ?_) #[true, true, true, true, true, true, true, true, true, true, true, true, true, true, true, true, true, true, true, true, false, false] rfl rfl (by kernel_rfl) (fun _ _ _ h => h) (Or.inr ⟨by rfl, rfl⟩) ?_ ?_
      rotate_left; (simp only [Act.put, sA, sZ, sS, i64_w, i32_w]; rfl)
      refine pure_ (i := 20) (N := some 27) (v := ?_) (a' := ?_) #[true, true, true, true, true, true, true, true, true, true, true, true, true, true, true, true, true, true, true, true, true, false] rfl rfl (by kernel_rfl) (fun _ _ _ h => h) (Or.inl ⟨by rfl, ?_⟩) ?_ ?_
      rotate_left; (intro w'; go_simp; with_reducible rfl); rotate_left; (simp only [Act.put, sA, sZ, sS, i64_w, i32_w]; rfl)
      refine pure_ (i := 21) (N := some 6) (v := ?_) (a' := ?_) #[true, true, true, true, true, true, true, true, true, true, true, true, true, true, true, true, true, true, true, true, true, true] rfl rfl (by kernel_rfl) (fun _ _ _ h => h) (Or.inl ⟨by rfl, ?_⟩) ?_ ?_
      rotate_left; (intro w'; go_simp; with_reducible rfl); rotate_left; (simp only [Act.put, sA, sZ, sS, i64_w, i32_w]; rfl)
      refine done_ (by kernel_rfl) ?_
      try go_wp2_with fail
      go_ret
      exact ⟨rfl, below_step hB hbw5b⟩
    | true =>
      obtain ⟨a0, a1⟩ := site_bounds ha
      obtain ⟨b0, b1⟩ := site_bounds hb
      have hl : canP P a b = (rd P a == rd P b) := by unfold canP; rw [ha, hb]; rfl
      rw [hl]
      obtain ⟨ad, eA, x0⟩ := Kd.at_int (HN.below hB).p.1 a a0 a1
      obtain ⟨ad2, eA2, x1⟩ := Kd.at_int (HN.below hB).p.1 b b0 b1
      subst eA
      obtain rfl : ad = ad2 := by injection eA2
      have held := Lib.hid (fun (w' : World) (hb : Below (w.alloc (.cells #[.slice (some ad) P.length c0, .slice A1 M.length c1] 25)).heap.size (w.alloc (.cells #[.slice (some ad) P.length c0, .slice A1 M.length c1] 25)) w') => (show w'.cell? ⟨w.heap.size, 0, none⟩ = some (.slice (some ad) P.length c0) ∧ w'.cell? ⟨w.heap.size, 1, none⟩ = some (.slice A1 M.length c1) ∧ Below (w.alloc (.cells #[.slice (some ad) P.length c0, .slice A1 M.length c1] 25)).heap.size (w.alloc (.cells #[.slice (some ad) P.length c0, .slice A1 M.length c1] 25)) w' ∧ w'.cell? (ad.add a.toNat) = some (.int .i64 (rd P a)) ∧ w'.cell? (ad.add b.toNat) = some (.int .i64 (rd P b)) from ⟨(blk_cell (blk_below hn0 hb) 0).trans rfl, (blk_cell (blk_below hn0 hb) 1).trans rfl, hb, (hb.cell (World.block_lt_of_cell? _ _ x0)).trans x0, (hb.cell (World.block_lt_of_cell? _ _ x1)).trans x1⟩))
      clear hn0 x0 x1
      go_enter Try.func46, Try.ntmps46
      go_wp2_with fail
      refine start_ (n := 22) (S := (fun w' => w'.cell? ⟨w.heap.size, 0, none⟩ = some (.slice (some ad) P.length c0) ∧ w'.cell? ⟨w.heap.size, 1, none⟩ = some (.slice A1 M.length c1) ∧ Below (w.alloc (.cells #[.slice (some ad) P.length c0, .slice A1 M.length c1] 25)).heap.size (w.alloc (.cells #[.slice (some ad) P.length c0, .slice A1 M.length c1] 25)) w' ∧ w'.cell? (ad.add a.toNat) = some (.int .i64 (rd P a)) ∧ w'.cell? (ad.add b.toNat) = some (.int .i64 (rd P b)))) (ds := []) #[false, false, false, false, false, false, false, false, false, false, false, false, false, false, false, false, false, false, false, false, false, false] (by kernel_rfl) rfl rfl (held.out _ (by repeat (first | assumption | exact Below.refl _ _ | apply below_drew1 | exact below_step (by assumption) (by assumption)))) (fun hHeld => ?_)
      refine take_ (i := 0) (N := some 7) (v := ?_) (a' := ?_) #[true, false, false, false, false, false, false, false, false, false, false, false, false, false, false, false, false, false, false, false, false, false] rfl rfl (by kernel_rfl) (fun _ _ _ h => h) (Or.inl ⟨by rfl, ?_⟩) hHeld ?_ ?_
      rotate_left; (rintro w' ⟨s0, s1, s2, s3, s4⟩; go_simp; with_reducible rfl); rotate_left; (simp only [Act.put, sA, sZ, sS, i64_w, i32_w]; rfl)
      refine pure_ (i := 1) (N := some 8) (v := ?_) (a' := ?_) #[true, true, false, false, false, false, false, false, false, false, false, false, false, false, false, false, false, false, false, false, false, false] rfl rfl (by kernel_rfl) (fun _ _ _ h => h) (Or.inl ⟨by rfl, ?_⟩) ?_ ?_
      rotate_left; (intro w'; go_simp; with_reducible rfl); rotate_left; (simp only [Act.put, sA, sZ, sS, i64_w, i32_w]; rfl)
      refine one_ (i := 2) (N := some 9) #[true, true, true, false, false, false, false, false, false, false, false, false, false, false, false, false, false, false, false, false, false, false] rfl rfl (by kernel_rfl) (by decide) (fun K hK => ?_)
      refine goes_ Try.func44 (by kernel_rfl) rfl #[.agg #[.slice (some ad) P.length c0, .slice A1 M.length c1], .int .i64 a] (by rfl) rfl rfl (by (try simp only [List.map_toArray, List.map_cons, List.map_nil]); first | done | rfl) ?_
      refine (HSa.out _ (by repeat (first | assumption | exact Below.refl _ _ | apply below_drew1 | exact below_step (by assumption) (by assumption)))).mono ?_
      rintro e w5a ⟨rfl, hb5a⟩
      have hbw5a : Below (w.alloc (.cells #[.slice (some ad) P.length c0, .slice A1 M.length c1] 25)).heap.size (w.alloc (.cells #[.slice (some ad) P.length c0, .slice A1 M.length c1] 25)) w5a := below_step (by repeat (first | assumption | exact Below.refl _ _ | apply below_drew1 | exact below_step (by assumption) (by assumption))) hb5a
      rw [ha]
      refine ⟨_, rfl, ?_⟩
      refine hK.out _ _ (held.out _ hbw5a) (fun hHeld => ?_)
      clear hK K
      refine norm_ (a' := ?_) ?_ ?_
      rotate_left
      · simp only [Act.put, sA, sZ, sS, i64_w, i32_w]
        rfl
      refine pure_ (i := 3) (N := some 10) (v := ?_) (a' := ?_) #[true, true, true, true, false, false, false, false, false, false, false, false, false, false, false, false, false, false, false, false, false, false] rfl rfl (by kernel_rfl) (fun _ _ _ h => h) (Or.inl ⟨by rfl, ?_⟩) ?_ ?_
      rotate_left; (intro w'; go_simp; with_reducible rfl); rotate_left; (simp only [Act.put, sA, sZ, sS, i64_w, i32_w]; rfl)
      refine take_ (i := 4) (N := some 11) (v := ?_) (a' := ?_) #[true, true, true, true, true, false, false, false, false, false, false, false, false, false, false, false, false, false, false, false, false, false] rfl rfl (by kernel_rfl) (fun _ _ _ h => h) (Or.inl ⟨by rfl, ?_⟩) hHeld ?_ ?_
      rotate_left; (rintro w' ⟨s0, s1, s2, s3, s4⟩; go_simp; with_reducible rfl); rotate_left; (simp only [Act.put, sA, sZ, sS, i64_w, i32_w]; rfl)
      refine pure_ (i := 5) (N := some 12) (v := ?_) (a' := ?_) #[true, true, true, true, true, true, false, false, false, false, false, false, false, false, false, false, false, false, false, false, false, false] rfl rfl (by kernel_rfl) (fun _ _ _ h => h) (Or.inl ⟨by rfl, ?_⟩) ?_ ?_
      rotate_left; (intro w'; go_simp; with_reducible rfl); rotate_left; (simp only [Act.put, sA, sZ, sS, i64_w, i32_w]; rfl)
      refine one_ (i := 6) (N := some 13) #[true, true, true, true, true, true, true, false, false, false, false, false, false, false, false, false, false, false, false, false, false, false] rfl rfl (by kernel_rfl) (by decide) (fun K hK => ?_)
      refine goes_ Try.func44 (by kernel_rfl) rfl #[.agg #[.slice (some ad) P.length c0, .slice A1 M.length c1], .int .i64 b] (by rfl) rfl rfl (by (try simp only [List.map_toArray, List.map_cons, List.map_nil]); first | done | rfl) ?_
      refine (HSb.out _ (by repeat (first | assumption | exact Below.refl _ _ | apply below_drew1 | exact below_step (by assumption) (by assumption)))).mono ?_
      rintro e w5b ⟨rfl, hb5b⟩
      have hbw5b : Below (w.alloc (.cells #[.slice (some ad) P.length c0, .slice A1 M.length c1] 25)).heap.size (w.alloc (.cells #[.slice (some ad) P.length c0, .slice A1 M.length c1] 25)) w5b := below_step (by repeat (first | assumption | exact Below.refl _ _ | apply below_drew1 | exact below_step (by assumption) (by assumption))) hb5b
      rw [hb]
      refine ⟨_, rfl, ?_⟩
      refine hK.out _ _ (held.out _ hbw5b) (fun hHeld => ?_)
      clear hK K
      refine norm_ (a' := ?_) ?_ ?_
      rotate_left
      · simp only [Act.put, sA, sZ, sS, i64_w, i32_w]
        rfl
      refine pure_ (i := 7) (N := some 14) (v := ?_) (a' := ?_) #[true, true, true, true, true, true, true, true, false, false, false, false, false, false, false, false, false, false, false, false, false, false] rfl rfl (by kernel_rfl) (fun _ _ _ h => h) (Or.inl ⟨by rfl, ?_⟩) ?_ ?_
      rotate_left; (intro w'; go_simp; with_reducible rfl); rotate_left; (simp only [Act.put, sA, sZ, sS, i64_w, i32_w]; rfl)
      refine pure_ (i := 8) (N := some 15) (v := ?_) (a' := ?_) #[true, true, true, true, true, true, true, true, true, false, false, false, false, false, false, false, false, false, false, false, false, false] rfl rfl (by kernel_rfl) (fun _ _ _ h => h) (Or.inl ⟨by rfl, ?_⟩) ?_ ?_
      rotate_left; (intro w'; go_simp; with_reducible rfl); rotate_left; (simp only [Act.put, sA, sZ, sS, i64_w, i32_w]; rfl)
      refine pure_ (i := 9) (N := some 16) (v := ?_) (a' := ?_) #[true, true, true, true, true, true, true, true, true, true, false, false, false, false, false, false, false, false, false, false, false, false] rfl rfl (by kernel_rfl) (fun _ _ _ h => h) (Or.inl ⟨by rfl, ?_⟩) ?_ ?_
      rotate_left; (intro w'; go_simp; with_reducible rfl); rotate_left; (simp only [Act.put, sA, sZ, sS, i64_w, i32_w]; rfl)
      refine take_ (i := 10) (N := some 17) (v := ?_) (a' := ?_) #[true, true, true, true, true, true, true, true, true, true, true, false, false, false, false, false, false, false, false, false, false, false] rfl rfl (by kernel_rfl) (fun _ _ _ h => h) (Or.inl ⟨by rfl, ?_⟩) hHeld ?_ ?_
      rotate_left; (rintro w' ⟨s0, s1, s2, s3, s4⟩; go_simp; with_reducible rfl); rotate_left; (simp only [Act.put, sA, sZ, sS, i64_w, i32_w]; rfl)
      refine pure_ (i := 11) (N := some 18) (v := ?_) (a' := ?_) #[true, true, true, true, true, true, true, true, true, true, true, true, false, false, false, false, false, false, false, false, false, false] rfl rfl (by kernel_rfl) (fun _ _ _ h => h) (Or.inl ⟨by rfl, ?_⟩) ?_ ?_
      rotate_left; (intro w'; go_simp; with_reducible rfl); rotate_left; (simp only [Act.put, sA, sZ, sS, i64_w, i32_w]; rfl)
      refine pure_ (i := 12) (N := some 19) (v := ?_) (a' := ?_) #[true, true, true, true, true, true, true, true, true, true, true, true, true, false, false, false, false, false, false, false, false, false] rfl rfl (by kernel_rfl) (fun _ _ _ h => h) (Or.inl ⟨by rfl, ?_⟩) ?_ ?_
      rotate_left; (intro w'; go_simp; with_reducible rfl); rotate_left; (simp only [Act.put, sA, sZ, sS, i64_w, i32_w]; rfl)
      refine take_ (i := 13) (N := some 20) (v := ?_) (a' := ?_) #[true, true, true, true, true, true, true, true, true, true, true, true, true, true, false, false, false, false, false, false, false, false] rfl rfl (by kernel_rfl) (fun _ _ _ h => h) (Or.inl ⟨by rfl, ?_⟩) hHeld ?_ ?_
      rotate_left; (rintro w' ⟨s0, s1, s2, s3, s4⟩; go_simp; with_reducible rfl); rotate_left; (simp only [Act.put, sA, sZ, sS, i64_w, i32_w]; rfl)
      refine pure_ (i := 14) (N := some 21) (v := ?_) (a' := ?_) #[true, true, true, true, true, true, true, true, true, true, true, true, true, true, true, false, false, false, false, false, false, false] rfl rfl (by kernel_rfl) (fun _ _ _ h => h) (Or.inl ⟨by rfl, ?_⟩) ?_ ?_
      rotate_left; (intro w'; go_simp; with_reducible rfl); rotate_left; (simp only [Act.put, sA, sZ, sS, i64_w, i32_w]; rfl)
      refine take_ (i := 15) (N := some 22) (v := ?_) (a' := ?_) #[true, true, true, true, true, true, true, true, true, true, true, true, true, true, true, true, false, false, false, false, false, false] rfl rfl (by kernel_rfl) (fun _ _ _ h => h) (Or.inl ⟨by rfl, ?_⟩) hHeld ?_ ?_
      rotate_left; (rintro w' ⟨s0, s1, s2, s3, s4⟩; go_simp; with_reducible rfl); rotate_left; (simp only [Act.put, sA, sZ, sS, i64_w, i32_w]; rfl)
      refine pure_ (i := 16) (N := some 23) (v := ?_) (a' := ?_) #[true, true, true, true, true, true, true, true, true, true, true, true, true, true, true, true, true, false, false, false, false, false] rfl rfl (by kernel_rfl) (fun _ _ _ h => h) (Or.inl ⟨by rfl, ?_⟩) ?_ ?_
      rotate_left; (intro w'; go_simp; with_reducible rfl); rotate_left; (simp only [Act.put, sA, sZ, sS, i64_w, i32_w]; rfl)
      refine pure_ (i := 17) (N := some 24) (v := ?_) (a' := ?_) #[true, true, true, true, true, true, true, true, true, true, true, true, true, true, true, true, true, true, false, false, false, false] rfl rfl (by kernel_rfl) (fun _ _ _ h => h) (Or.inl ⟨by rfl, ?_⟩) ?_ ?_
      rotate_left; (intro w'; go_simp; with_reducible rfl); rotate_left; (simp only [Act.put, sA, sZ, sS, i64_w, i32_w]; rfl)
      refine take_ (i := 18) (N := some 25) (v := ?_) (a' := ?_) #[true, true, true, true, true, true, true, true, true, true, true, true, true, true, true, true, true, true, true, false, false, false] rfl rfl (by kernel_rfl) (fun _ _ _ h => h) (Or.inl ⟨by rfl, ?_⟩) hHeld ?_ ?_
      rotate_left; (rintro w' ⟨s0, s1, s2, s3, s4⟩; go_simp; with_reducible rfl); rotate_left; (simp only [Act.put, sA, sZ, sS, i64_w, i32_w]; rfl)
      refine pure_ (i := 19) (N := some 26) (v := ?_) (a' := ?_) #[true, true, true, true, true, true, true, true, true, true, true, true, true, true, true, true, true, true, true, true, false, false] rfl rfl (by kernel_rfl) (fun _ _ _ h => h) (Or.inl ⟨by rfl, ?_⟩) ?_ ?_
      rotate_left; (intro w'; go_simp; with_reducible rfl); rotate_left; (simp only [Act.put, sA, sZ, sS, i64_w, i32_w]; rfl)
      refine pure_ (i := 20) (N := some 27) (v := ?_) (a' := ?_) #[true, true, true, true, true, true, true, true, true, true, true, true, true, true, true, true, true, true, true, true, true, false] rfl rfl (by kernel_rfl) (fun _ _ _ h => h) (Or.inl ⟨by rfl, ?_⟩) ?_ ?_
      rotate_left; (intro w'; go_simp; with_reducible rfl); rotate_left; (simp only [Act.put, sA, sZ, sS, i64_w, i32_w]; rfl)
      refine pure_ (i := 21) (N := some 6) (v := ?_) (a' := ?_) #[true, true, true, true, true, true, true, true, true, true, true, true, true, true, true, true, true, true, true, true, true, true] rfl rfl (by kernel_rfl) (fun _ _ _ h => h) (Or.inl ⟨by rfl, ?_⟩) ?_ ?_
      rotate_left; (intro w'; go_simp; with_reducible rfl); rotate_left; (simp only [Act.put, sA, sZ, sS, i64_w, i32_w]; rfl)
      refine done_ (by kernel_rfl) ?_
      try go_wp2_with fail
      go_ret
      exact ⟨rfl, below_step hB hbw5b⟩
set_option maxHeartbeats 6400000 in
set_option maxRecDepth 100000 in
theorem r_deliver (HN : NF w ok A0 c0 P A1 c1 M) (hfr : ∀ k, w.heap.size ≤ k → ok k) (hM : M.length ≤ 1000) (i : Int) :
    Calls Try.prog 32 #[.agg #[.slice A0 P.length c0, .slice A1 M.length c1], .int .i64 i] w (RefMsg w ok (deliverP P M i).1 (deliverP P M i).2.1 (deliverP P M i).2.2.1 (deliverP P M i).2.2.2.1 (deliverP P M i).2.2.2.2.1 (deliverP P M i).2.2.2.2.2) := by
  have hVs : (((w.alloc (.cells #[.slice A0 P.length c0, .slice A1 M.length c1] 25)).alloc (.cells #[.slice none 0 0, .slice none 0 0] 25)).alloc (.cells #[.int .i64 0, .int .i64 0, .slice none 0 0] 39)).heap.size = w.heap.size + 3 := by simp
  have hV0 := blk_alloc (blk_alloc (blk_new w (.cells #[.slice A0 P.length c0, .slice A1 M.length c1] 25)) (.cells #[.slice none 0 0, .slice none 0 0] 25)) (.cells #[.int .i64 0, .int .i64 0, .slice none 0 0] 39)
  have hV1 := blk_alloc (blk_next w (.cells #[.slice A0 P.length c0, .slice A1 M.length c1] 25) #[.slice none 0 0, .slice none 0 0] 25) (.cells #[.int .i64 0, .int .i64 0, .slice none 0 0] 39)
  have hV2 := blk_next2 w (.cells #[.slice A0 P.length c0, .slice A1 M.length c1] 25) (.cells #[.slice none 0 0, .slice none 0 0] 25) #[.int .i64 0, .int .i64 0, .slice none 0 0] 39
  have hB : Below w.heap.size w (((w.alloc (.cells #[.slice A0 P.length c0, .slice A1 M.length c1] 25)).alloc (.cells #[.slice none 0 0, .slice none 0 0] 25)).alloc (.cells #[.int .i64 0, .int .i64 0, .slice none 0 0] 39)) := below_alloc (below_alloc (below_alloc (Below.refl _ _) _) _) _
  have y0 := (blk_cell hV0 0).trans rfl
  have y1 := (blk_cell hV0 1).trans rfl
  have u2 := (blk_cell hV1 0).trans rfl
  have u3 := (blk_cell hV1 1).trans rfl
  have u4 := blk_frozen hV1 0
  have u5 := blk_frozen hV1 1
  cases hi : indexP M i with
  | false =>
    have hl : deliverP P M i = ([], [], 0, 0, [], 8) := by unfold deliverP; rw [hi]; rfl
    rw [hl]
    clear hl
    by_cases h0 : i < 0
    · go_enter Try.func32, Try.ntmps32
      go_wp2_with fail
      refine bodyPost_ret (results_list (rs := [.cell 4 25, .cell 5 39, .tmp 6]) rfl (by simp) (.cell (w.heap.size + 1) 25 #[.slice none 0 0, .slice none 0 0] (0, 0) _ rfl hV1 Try.underlying25 rfl (by kernel_rfl) (.cell (w.heap.size + 1 + 1) 39 #[.int .i64 0, .int .i64 0, .slice none 0 0] (0, 0) _ rfl hV2 Try.underlying39 rfl (by kernel_rfl) (.tmp .nil)))) rfl ?_
      exact ⟨none, 0, none, 0, none, 0, rfl, NF.nil _ _, ⟨Kd.F_nil _ _ _, Nat.le_refl _⟩, hB⟩
    · have h1 : (M.length : Int) ≤ i := by
        have h := hi
        unfold indexP at h
        rw [decide_eq_false_iff_not] at h
        omega
      go_enter Try.func32, Try.ntmps32
      go_wp2_with fail
      refine bodyPost_ret (results_list (rs := [.cell 4 25, .cell 5 39, .tmp 6]) rfl (by simp) (.cell (w.heap.size + 1) 25 #[.slice none 0 0, .slice none 0 0] (0, 0) _ rfl hV1 Try.underlying25 rfl (by kernel_rfl) (.cell (w.heap.size + 1 + 1) 39 #[.int .i64 0, .int .i64 0, .slice none 0 0] (0, 0) _ rfl hV2 Try.underlying39 rfl (by kernel_rfl) (.tmp .nil)))) rfl ?_
      exact ⟨none, 0, none, 0, none, 0, rfl, NF.nil _ _, ⟨Kd.F_nil _ _ _, Nat.le_refl _⟩, hB⟩
  | true =>
    obtain ⟨h0, h1⟩ := index_bounds hi
    obtain ⟨x, rfl⟩ := Int.eq_ofNat_of_zero_le h0
    have q2 : ¬ ((x : Int) < 0) := by omega
    have q3 : ¬ ((M.length : Int) ≤ (x : Int)) := by omega
    obtain ⟨ad, A3, c3, eA, x0, x1, x2, h3, g3⟩ := at_T39 (HN.nc.below hB).m.1 (x : Int) (by omega) h1
    subst eA
    rw [Int.toNat_natCast] at x0 x1 x2
    have hgF : Kd.F (Kd.int .u8) w ok A3 (rd_T39 M (x : Int)).f2.length (rd_T39 M (x : Int)).f2 := by
      obtain ⟨ad2, cc, e2, _, hK, hc0, _⟩ := Kd.F_get HN.m.1 z39 (x : Int) (by omega) h1
      obtain rfl : ad = ad2 := by injection e2
      obtain ⟨A9, c9, rfl, _, hF⟩ := k39_openF hK
      have h := hc0 2 _ rfl
      have h2 := (hB.cell (World.block_lt_of_cell? _ _ h)).trans h
      rw [Int.toNat_natCast, add_field _ _ 2 (by omega)] at h2
      rw [show k39.sz = 3 from rfl] at h2
      rw [x2] at h2
      injection h2 with h2
      injection h2 with h2
      rw [h2]
      exact hF
    have hd : deliverP P M (x : Int) = if canP P (rd_T39 M (x : Int)).f0 (rd_T39 M (x : Int)).f1 = true then (P, skip (x : Int) 0 M, (rd_T39 M (x : Int)).f0, (rd_T39 M (x : Int)).f1, (rd_T39 M (x : Int)).f2, 0) else ([], [], 0, 0, [], 13) := by unfold deliverP; rw [if_pos hi]
    generalize rd_T39 M (x : Int) = m at *
    cases hcn : canP P m.f0 m.f1 with
    | false =>
      have hl : deliverP P M (x : Int) = ([], [], 0, 0, [], 13) := by rw [hd, hcn]; rfl
      rw [hl]
      clear hl hd
      have HV0 := Lib.hid (blk_alloc hV0 (.cells #[.int .i64 m.f0, .int .i64 m.f1, .slice A3 m.f2.length c3] 39))
      have HV1 := Lib.hid (blk_alloc hV1 (.cells #[.int .i64 m.f0, .int .i64 m.f1, .slice A3 m.f2.length c3] 39))
      have HV2 := Lib.hid (blk_alloc hV2 (.cells #[.int .i64 m.f0, .int .i64 m.f1, .slice A3 m.f2.length c3] 39))
      have HVm := Lib.hid (blk_next3 w (.cells #[.slice A0 P.length c0, .slice (some ad) M.length c1] 25) (.cells #[.slice none 0 0, .slice none 0 0] 25) (.cells #[.int .i64 0, .int .i64 0, .slice none 0 0] 39) #[.int .i64 m.f0, .int .i64 m.f1, .slice A3 m.f2.length c3] 39)
      have HB := Lib.hid (below_alloc hB (.cells #[.int .i64 m.f0, .int .i64 m.f1, .slice A3 m.f2.length c3] 39))
      have HBS := Lib.hid (show ((((w.alloc (.cells #[.slice A0 P.length c0, .slice (some ad) M.length c1] 25)).alloc (.cells #[.slice none 0 0, .slice none 0 0] 25)).alloc (.cells #[.int .i64 0, .int .i64 0, .slice none 0 0] 39)).alloc (.cells #[.int .i64 m.f0, .int .i64 m.f1, .slice A3 m.f2.length c3] 39)).heap.size = w.heap.size + 4 by simp)
      have hcc := r_can (HN.nc.below HB.out) m.f0 m.f1
      clear hV0 hV1 hV2 hB hVs
      go_enter Try.func32, Try.ntmps32
      go_wp2_with fail
      refine hcc.mono ?_
      rintro e w1 ⟨rfl, hb1⟩
      rw [hcn]
      clear hcc y0 y1 u2 u3 u4 u5 x0 x1 x2 q2 q3
      have hV0 := blk_below HV0.out hb1
      have hV1 := blk_below HV1.out hb1
      have hV2 := blk_below HV2.out hb1
      have hVm := blk_below HVm.out hb1
      have hB := below_step HB.out hb1
      have hws : w.heap.size + 4 ≤ w1.heap.size := by have h1 := hb1.size; have h2 := HBS.out; omega
      have y0 := (blk_cell hV0 0).trans rfl
      have y1 := (blk_cell hV0 1).trans rfl
      have m0 := (blk_cell hVm 0).trans rfl
      have m1 := (blk_cell hVm 1).trans rfl
      have m2 := (blk_cell hVm 2).trans rfl
      have u2 := (blk_cell hV1 0).trans rfl
      have u3 := (blk_cell hV1 1).trans rfl
      have u4 := blk_frozen hV1 0
      have u5 := blk_frozen hV1 1
      have v2 := (blk_cell hV2 0).trans rfl
      have v3 := (blk_cell hV2 1).trans rfl
      have v4 := (blk_cell hV2 2).trans rfl
      have v5 := blk_frozen hV2 0
      have v6 := blk_frozen hV2 1
      have v7 := blk_frozen hV2 2
      obtain ⟨hR1, hR2, hR3⟩ := res_pair (w0 := w) hV1 hV2 (by omega) (.slice none 0 0) (.slice none 0 0) (.int .i64 0) (.int .i64 0) (.slice none 0 0)
      have HR1 := Lib.hid hR1
      have HR2 := Lib.hid hR2
      have HR3 := Lib.hid (hR3 (by omega) (by omega) hB)
      clear hR1 hR2 hR3
      clear hV0 hV1 hV2 hVm hB hb1
      go_wp2_with fail
      refine bodyPost_ret (results_list (rs := [.cell 4 25, .cell 5 39, .tmp 6]) rfl (by simp) (.cell (w.heap.size + 1) 25 #[(.slice none 0 0), (.slice none 0 0)] (0, 0) _ rfl HR1.out Try.underlying25 rfl (by kernel_rfl) (.cell (w.heap.size + 2) 39 #[(.int .i64 0), (.int .i64 0), (.slice none 0 0)] (0, 0) _ rfl HR2.out Try.underlying39 rfl (by kernel_rfl) (.tmp .nil)))) rfl ?_
      exact ⟨none, 0, none, 0, none, 0, rfl, NF.nil _ _, ⟨Kd.F_nil _ _ _, Nat.le_refl _⟩, HR3.out⟩
    | true =>
      have hl : deliverP P M (x : Int) = (P, skip (x : Int) 0 M, m.f0, m.f1, m.f2, 0) := by rw [hd, hcn]; rfl
      rw [hl]
      clear hl hd
      have HV0 := Lib.hid (blk_alloc hV0 (.cells #[.int .i64 m.f0, .int .i64 m.f1, .slice A3 m.f2.length c3] 39))
      have HV1 := Lib.hid (blk_alloc hV1 (.cells #[.int .i64 m.f0, .int .i64 m.f1, .slice A3 m.f2.length c3] 39))
      have HV2 := Lib.hid (blk_alloc hV2 (.cells #[.int .i64 m.f0, .int .i64 m.f1, .slice A3 m.f2.length c3] 39))
      have HVm := Lib.hid (blk_next3 w (.cells #[.slice A0 P.length c0, .slice (some ad) M.length c1] 25) (.cells #[.slice none 0 0, .slice none 0 0] 25) (.cells #[.int .i64 0, .int .i64 0, .slice none 0 0] 39) #[.int .i64 m.f0, .int .i64 m.f1, .slice A3 m.f2.length c3] 39)
      have HB := Lib.hid (below_alloc hB (.cells #[.int .i64 m.f0, .int .i64 m.f1, .slice A3 m.f2.length c3] 39))
      have HBS := Lib.hid (show ((((w.alloc (.cells #[.slice A0 P.length c0, .slice (some ad) M.length c1] 25)).alloc (.cells #[.slice none 0 0, .slice none 0 0] 25)).alloc (.cells #[.int .i64 0, .int .i64 0, .slice none 0 0] 39)).alloc (.cells #[.int .i64 m.f0, .int .i64 m.f1, .slice A3 m.f2.length c3] 39)).heap.size = w.heap.size + 4 by simp)
      have hcc := r_can (HN.nc.below HB.out) m.f0 m.f1
      clear hV0 hV1 hV2 hB hVs
      go_enter Try.func32, Try.ntmps32
      go_wp2_with fail
      refine hcc.mono ?_
      rintro e w1 ⟨rfl, hb1⟩
      rw [hcn]
      clear hcc y0 y1 u2 u3 u4 u5 x0 x1 x2 q2 q3
      have hV0 := blk_below HV0.out hb1
      have hV1 := blk_below HV1.out hb1
      have hV2 := blk_below HV2.out hb1
      have hVm := blk_below HVm.out hb1
      have hB := below_step HB.out hb1
      have hws : w.heap.size + 4 ≤ w1.heap.size := by have h1 := hb1.size; have h2 := HBS.out; omega
      have y0 := (blk_cell hV0 0).trans rfl
      have y1 := (blk_cell hV0 1).trans rfl
      have m0 := (blk_cell hVm 0).trans rfl
      have m1 := (blk_cell hVm 1).trans rfl
      have m2 := (blk_cell hVm 2).trans rfl
      have u2 := (blk_cell hV1 0).trans rfl
      have u3 := (blk_cell hV1 1).trans rfl
      have u4 := blk_frozen hV1 0
      have u5 := blk_frozen hV1 1
      have v2 := (blk_cell hV2 0).trans rfl
      have v3 := (blk_cell hV2 1).trans rfl
      have v4 := (blk_cell hV2 2).trans rfl
      have v5 := blk_frozen hV2 0
      have v6 := blk_frozen hV2 1
      have v7 := blk_frozen hV2 2
      have held := Lib.hid (fun (w' : World) (hb : Below w1.heap.size w1 w') => (show w'.cell? ⟨w.heap.size, 0, none⟩ = some (.slice A0 P.length c0) ∧ w'.cell? ⟨w.heap.size, 1, none⟩ = some (.slice (some ad) M.length c1) ∧ w'.cell? ⟨w.heap.size + 3, 0, none⟩ = some (.int .i64 m.f0) ∧ w'.cell? ⟨w.heap.size + 3, 1, none⟩ = some (.int .i64 m.f1) ∧ w'.cell? ⟨w.heap.size + 3, 2, none⟩ = some (.slice A3 m.f2.length c3) ∧ Below w1.heap.size w1 w' from
        ⟨(blk_cell (blk_below hV0 hb) 0).trans rfl, (blk_cell (blk_below hV0 hb) 1).trans rfl, (blk_cell (blk_below hVm hb) 0).trans rfl, (blk_cell (blk_below hVm hb) 1).trans rfl, (blk_cell (blk_below hVm hb) 2).trans rfl, hb⟩))
      have HNW := HN.bound.below hB
      have HCL := Lib.hid (fun (W : World) (hb : Below w1.heap.size w1 W) => c_without ((HNW.mono (ok' := fun k => (ok k ∧ k < w.heap.size) ∨ w1.heap.size ≤ k) (fun k hk => .inl hk)).below hb) (fun k hk => .inr (Nat.le_trans hb.size hk)) x (by omega) hM)
      clear y0 y1 m0 m1 m2 u2 u3 u4 u5 v2 v3 v4 v5 v6 v7
      go_wp2_with fail
      refine start_ (n := 7) (S := (fun w' => w'.cell? ⟨w.heap.size, 0, none⟩ = some (.slice A0 P.length c0) ∧ w'.cell? ⟨w.heap.size, 1, none⟩ = some (.slice (some ad) M.length c1) ∧ w'.cell? ⟨w.heap.size + 3, 0, none⟩ = some (.int .i64 m.f0) ∧ w'.cell? ⟨w.heap.size + 3, 1, none⟩ = some (.int .i64 m.f1) ∧ w'.cell? ⟨w.heap.size + 3, 2, none⟩ = some (.slice A3 m.f2.length c3))) (ds := [5]) #[false, false, false, false, false, false, false] (by kernel_rfl) rfl rfl (⟨(held.out _ (below_drew1 (Below.refl _ _))).1, (held.out _ (below_drew1 (Below.refl _ _))).2.1, (held.out _ (below_drew1 (Below.refl _ _))).2.2.1, (held.out _ (below_drew1 (Below.refl _ _))).2.2.2.1, (held.out _ (below_drew1 (Below.refl _ _))).2.2.2.2.1⟩) (fun hHeld => ?_)
      refine take_ (i := 0) (N := some 33) (v := ?_) (a' := ?_) #[true, false, false, false, false, false, false] rfl rfl (by kernel_rfl) (fun _ _ _ h => h) (Or.inl ⟨by rfl, ?_⟩) hHeld ?_ ?_
      rotate_left; (rintro w' ⟨s0, s1, s2, s3, s4⟩; go_simp; with_reducible rfl); rotate_left; (simp only [Act.put, sA, sZ, sS, i64_w, i32_w]; rfl)
      refine pure_ (i := 1) (N := some 34) (v := ?_) (a' := ?_) #[true, true, false, false, false, false, false] rfl rfl (by kernel_rfl) (fun _ _ _ h => h) (Or.inl ⟨by rfl, ?_⟩) ?_ ?_
      rotate_left; (intro w'; go_simp; with_reducible rfl); rotate_left; (simp only [Act.put, sA, sZ, sS, i64_w, i32_w]; rfl)
      refine take_ (i := 3) (N := some 36) (v := ?_) (a' := ?_) #[true, true, false, true, false, false, false] rfl rfl (by kernel_rfl) (fun _ _ _ h => h) (Or.inl ⟨by rfl, ?_⟩) hHeld ?_ ?_
      rotate_left; (rintro w' ⟨s0, s1, s2, s3, s4⟩; go_simp; with_reducible rfl); rotate_left; (simp only [Act.put, sA, sZ, sS, i64_w, i32_w]; rfl)
      refine one_ (i := 2) (N := some 35) #[true, true, true, true, false, false, false] rfl rfl (by kernel_rfl) (by decide) (fun K hK => ?_)
      refine goes_ Try.func47 (by kernel_rfl) rfl #[.agg #[.slice A0 P.length c0, .slice (some ad) M.length c1], .int .i64 x] (by rfl) rfl rfl (by (try simp only [List.map_toArray, List.map_cons, List.map_nil]); first | done | rfl) ?_
      refine (HCL.out _ (below_drew1 (Below.refl _ _))).mono ?_
      rintro e w2 ⟨B1, d1, rfl, hN1, hb0⟩
      have hb2 := below_step (below_drew1 (Below.refl _ _)) hb0
      have hh2 := held.out _ hb2
      refine ⟨_, rfl, ?_⟩
      refine hK.out _ _ (⟨hh2.1, hh2.2.1, hh2.2.2.1, hh2.2.2.2.1, hh2.2.2.2.2.1⟩) (fun hHeld => ?_)
      clear hK K
      refine norm_ (a' := ?_) ?_ ?_
      rotate_left
      · simp only [Act.put, sA, sZ, sS, i64_w, i32_w]
        rfl
      refine one_ (i := 4) (N := none) #[true, true, true, true, true, false, false] rfl rfl (by kernel_rfl) (by decide) (fun K hK => ?_)
      obtain ⟨hR1, hR2, hR3⟩ := res_pair (w0 := w) (blk_below hV1 hb2) (blk_below hV2 hb2) (by omega) (.slice A0 P.length c0) (.slice B1 (skip (x : Int) 0 M).length d1) (.int .i64 m.f0) (.int .i64 m.f1) (.slice A3 m.f2.length c3)
      have HR1 := Lib.hid hR1
      have HR2 := Lib.hid hR2
      have HR3 := Lib.hid (hR3 (by omega) (by omega) (below_step hB hb2))
      clear hR1 hR2 hR3
      have u2 := (blk_cell (blk_below hV1 hb2) 0).trans rfl
      have u3 := (blk_cell (blk_below hV1 hb2) 1).trans rfl
      have u4 := blk_frozen (blk_below hV1 hb2) 0
      have u5 := blk_frozen (blk_below hV1 hb2) 1
      refine skip_ (w1 := ?_) (by rfl) rfl ?_ ?_
      rotate_left
      · go_simp
        rfl
      refine hK.out _ _ ⟨(cell_far (by dsimp only; omega) _).trans ((cell_far (by dsimp only; omega) _).trans hh2.1), (cell_far (by dsimp only; omega) _).trans ((cell_far (by dsimp only; omega) _).trans hh2.2.1), (cell_far (by dsimp only; omega) _).trans ((cell_far (by dsimp only; omega) _).trans hh2.2.2.1), (cell_far (by dsimp only; omega) _).trans ((cell_far (by dsimp only; omega) _).trans hh2.2.2.2.1), (cell_far (by dsimp only; omega) _).trans ((cell_far (by dsimp only; omega) _).trans hh2.2.2.2.2.1)⟩ (fun hHeld => ?_)
      clear hK K
      refine norm_ (a' := ?_) ?_ ?_
      rotate_left
      · first | (simp only [Act.put, sA, sZ, sS, i64_w, i32_w]; rfl) | rfl
      refine last_ (i := 5) (N := none) #[true, true, true, true, true, true, false] rfl rfl (by kernel_rfl) (by decide) (fun K hK => ?_)
      have hx2 := blk_far (p := ⟨w.heap.size + 1, 1, none⟩) (blk_far (p := ⟨w.heap.size + 1, 0, none⟩) (blk_below hV2 hb2) (by simp) (.slice A0 P.length c0)) (by simp) (.slice B1 (skip (x : Int) 0 M).length d1)
      have v2 := (blk_cell hx2 0).trans rfl
      have v3 := (blk_cell hx2 1).trans rfl
      have v4 := (blk_cell hx2 2).trans rfl
      have v5 := blk_frozen hx2 0
      have v6 := blk_frozen hx2 1
      have v7 := blk_frozen hx2 2
      refine skip_ (w1 := ?_) (by rfl) rfl ?_ ?_
      rotate_left
      · go_simp
        rfl
      refine hK.out _ _ ?_
      clear hK K
      refine pure_ (i := 6) (N := some 6) (v := ?_) (a' := ?_) #[true, true, true, true, true, true, true] rfl rfl (by kernel_rfl) (fun _ _ _ h => h) (Or.inl ⟨by rfl, ?_⟩) ?_ ?_
      rotate_left; (intro w'; go_simp; with_reducible rfl); rotate_left; (simp only [Act.put, sA, sZ, sS, i64_w, i32_w]; rfl)
      refine done_ (by kernel_rfl) ?_
      try go_wp2_with fail
      refine bodyPost_ret (results_list (rs := [.cell 4 25, .cell 5 39, .tmp 6]) rfl (by simp) (.cell (w.heap.size + 1) 25 #[(.slice A0 P.length c0), (.slice B1 (skip (x : Int) 0 M).length d1)] (0, 0) _ rfl HR1.out Try.underlying25 rfl (by kernel_rfl) (.cell (w.heap.size + 2) 39 #[(.int .i64 m.f0), (.int .i64 m.f1), (.slice A3 m.f2.length c3)] (0, 0) _ rfl HR2.out Try.underlying39 rfl (by kernel_rfl) (.tmp .nil)))) rfl ?_
      have hgW : Kd.F (Kd.int .u8) w2 (fun k => ok k ∧ k < w.heap.size) A3 m.f2.length m.f2 := Kd.F_below (Kd.F_bound hgF) (below_step hB hb2)
      exact ⟨A0, c0, B1, d1, A3, c3, rfl, (((((hN1.far (p := ⟨w.heap.size + 1, 0, none⟩) (by intro k hk; rcases hk with ⟨_, hk⟩ | hk <;> (dsimp only; omega)) _).far (p := ⟨w.heap.size + 1, 1, none⟩) (by intro k hk; rcases hk with ⟨_, hk⟩ | hk <;> (dsimp only; omega)) _).far (p := ⟨w.heap.size + 2, 0, none⟩) (by intro k hk; rcases hk with ⟨_, hk⟩ | hk <;> (dsimp only; omega)) _).far (p := ⟨w.heap.size + 2, 1, none⟩) (by intro k hk; rcases hk with ⟨_, hk⟩ | hk <;> (dsimp only; omega)) _).far (p := ⟨w.heap.size + 2, 2, none⟩) (by intro k hk; rcases hk with ⟨_, hk⟩ | hk <;> (dsimp only; omega)) _).mono (fun k hk => by rcases hk with hk | hk; exact hk.1; exact hfr k (by omega)),
        ⟨Kd.F_mono (Kd.F_far (Kd.F_far (Kd.F_far (Kd.F_far (Kd.F_far hgW (p := ⟨w.heap.size + 1, 0, none⟩) (by intro k hk; have := hk.2; dsimp only; omega) _) (p := ⟨w.heap.size + 1, 1, none⟩) (by intro k hk; have := hk.2; dsimp only; omega) _) (p := ⟨w.heap.size + 2, 0, none⟩) (by intro k hk; have := hk.2; dsimp only; omega) _) (p := ⟨w.heap.size + 2, 1, none⟩) (by intro k hk; have := hk.2; dsimp only; omega) _) (p := ⟨w.heap.size + 2, 2, none⟩) (by intro k hk; have := hk.2; dsimp only; omega) _) (fun k hk => hk.1), h3⟩, HR3.out⟩
end

end Go.Proofs.Ytlaheldjlfckkaa.A

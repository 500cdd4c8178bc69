/- Contracts of the reference's functions of layer 58: a network that reads goes in, a network that reads comes out. -/
import Derived.Test.YtlaheldjlfckkaaHCalls
import Derived.Test.YtlaheldjlfckkaaHTheoryS
namespace Go.Proofs.Ytlaheldjlfckkaa.A
open Go.RowKit Go.Proofs.YtlaheldjlfckkaaW.PrintWords Go.Proofs.YtlaheldjlfckkaaW.PrintLast Go.Proofs.YtlaheldjlfckkaaW.PrintMore
set_option linter.unusedVariables false
set_option linter.unusedSimpArgs false

theorem skip_take : ∀ (M : List S39) (i j : Nat), j ≤ i → i < j + M.length → skip (i : Int) (j : Int) M = M.take (i - j) ++ M.drop (i - j + 1)
  | [], i, j, h0, h1 => by simp at h1; omega
  | m :: ms, i, j, h0, h1 => by
    simp only [skip]
    by_cases he : j = i
    · subst he
      rw [if_pos rfl, skip_none (j : Int) ms ((j : Int) + 1) (by omega)]
      simp
    · rw [if_neg (by omega)]
      have h := skip_take ms i (j + 1) (by omega) (by simp at h1; omega)
      simp only [Int.natCast_add, Int.cast_ofNat_Int] at h
      obtain ⟨q, hq⟩ : ∃ q, i - j = q + 1 := ⟨i - j - 1, by omega⟩
      rw [h, hq, show i - (j + 1) = q by omega]
      simp
/-- A literal without elements. -/
theorem owns_empty {W : World} {base g e size : Nat} (h : W.heap[g]? = some (.cells #[] e (0, 0))) (hb : base ≤ g) : W.ownsRow base e size (.slice (some ⟨g, 0, none⟩) 0 0) 0 [] :=
  ⟨by simp, .inr ⟨g, 0, #[], rfl, hb, h, Nat.le_refl _, by decide, by simp, by simp⟩⟩
theorem R_empty {α : Type} {d : Kd α} {W : World} {base g e : Nat} {ok : Nat → Prop} (h : W.heap[g]? = some (.cells #[] e (0, 0))) (hb : base ≤ g) (hok : ok g) : Kd.R d e W base ok (.slice (some ⟨g, 0, none⟩) 0 0) [] :=
  ⟨fun k hk => by have : g = k := by simpa [Value.ownBlock] using hk
                  subst this; exact hok, [], owns_empty h hb, Reps.none _ _⟩
theorem N_empty' {W : World} {base g : Nat} {ok : Nat → Prop} (h : W.heap[g]? = some (.cells #[] 39 (0, 0))) (hb : base ≤ g) (hok : ok g) : Kd.N k39 39 W base ok (.slice (some ⟨g, 0, none⟩) 0 0) [] := Kd.R_N (R_empty h hb hok)
theorem N_net {α : Type} {d : Kd α} {e n cc base : Nat} {ok : Nat → Prop} {w : World} {A : Option Addr} {xs : List α} (h : Kd.N d e w base ok (.slice A n cc) xs) : Kd.F d w ok A xs.length xs ∧ xs.length ≤ cc := by
  have h1 := Kd.N_reads' h
  have h2 := Kd.N_F h
  rw [h1.1] at h2
  exact ⟨h2, by rw [← h1.1]; exact h1.2.1⟩
theorem heap_k39 : Kd.Heap k39 := Kd.heap_iso _ (Kd.heap_pair (Kd.heap_int .i64) (Kd.heap_pair (Kd.heap_int .i64) (Kd.heap_slice 5 (Kd.heap_int .u8))))
/-- Slices that read as a network; what they lead to lies in ok. -/
structure NF (w : World) (ok : Nat → Prop) (A0 : Option Addr) (c0 : Nat) (P : List Int) (A1 : Option Addr) (c1 : Nat) (M : List S39) : Prop where
  p : Kd.F (Kd.int .i64) w ok A0 P.length P ∧ P.length ≤ c0
  m : Kd.F k39 w ok A1 M.length M ∧ M.length ≤ c1
section
variable {w w' : World} {ok ok' : Nat → Prop} {A0 A1 : Option Addr} {c0 c1 : Nat} {P : List Int} {M : List S39}
theorem NF.nc (h : NF w ok A0 c0 P A1 c1 M) : NC w A0 c0 P A1 c1 M := ⟨⟨Kd.F_now h.p.1, h.p.2⟩, ⟨Kd.F_now h.m.1, h.m.2⟩⟩
theorem NF.below (h : NF w ok A0 c0 P A1 c1 M) (hb : Below w.heap.size w w') : NF w' ok A0 c0 P A1 c1 M := ⟨⟨Kd.F_below h.p.1 hb, h.p.2⟩, ⟨Kd.F_below h.m.1 hb, h.m.2⟩⟩
theorem NF.mono (h : NF w ok A0 c0 P A1 c1 M) (ho : ∀ k, ok k → ok' k) : NF w ok' A0 c0 P A1 c1 M := ⟨⟨Kd.F_mono h.p.1 ho, h.p.2⟩, ⟨Kd.F_mono h.m.1 ho, h.m.2⟩⟩
theorem NF.bound (h : NF w ok A0 c0 P A1 c1 M) : NF w (fun k => ok k ∧ k < w.heap.size) A0 c0 P A1 c1 M := ⟨⟨Kd.F_bound h.p.1, h.p.2⟩, ⟨Kd.F_bound h.m.1, h.m.2⟩⟩
theorem NF.far (h : NF w ok A0 c0 P A1 c1 M) {p : Addr} (ho : ∀ k, ok k → k ≠ p.block) (u : Value) : NF (w.setCell p u) ok A0 c0 P A1 c1 M := ⟨⟨Kd.F_far h.p.1 ho u, h.p.2⟩, ⟨Kd.F_far h.m.1 ho u, h.m.2⟩⟩
theorem NF.nil (w : World) (ok : Nat → Prop) : NF w ok none 0 [] none 0 [] := ⟨⟨Kd.F_nil _ _ _, Nat.le_refl _⟩, ⟨Kd.F_nil _ _ _, Nat.le_refl _⟩⟩
theorem NR.nf {b : Nat} (h : NR w b A0 c0 P A1 c1 M) : NF w (fun k => b ≤ k) A0 c0 P A1 c1 M :=
  ⟨⟨Kd.R_F (Kd.R_mono (Kd.R_bound h.parts) (fun k hk => hk.2.1)), h.p.2⟩, ⟨Kd.R_F (Kd.R_mono (Kd.R_bound h.mail) (fun k hk => hk.2.1)), h.m.2⟩⟩
end
theorem NC.nil (w : World) : NC w none 0 [] none 0 [] := ⟨⟨Kd.C_nil _ _, Nat.le_refl _⟩, ⟨Kd.C_nil _ _, Nat.le_refl _⟩⟩
theorem blk_next2 (W : World) (o o' : Obj) (cs : Array Value) (n : Nat) : (((W.alloc o).alloc o').alloc (.cells cs n)).heap[W.heap.size + 2]? = some (.cells cs n (0, 0)) := by
  have h := blk_new ((W.alloc o).alloc o') (.cells cs n (0, 0))
  simpa using h
/-- A network comes back. -/
theorem blk_next (W : World) (o : Obj) (cs : Array Value) (n : Nat) : ((W.alloc o).alloc (.cells cs n)).heap[W.heap.size + 1]? = some (.cells cs n (0, 0)) := by
  have h := blk_new (W.alloc o) (.cells cs n (0, 0))
  simpa using h
def RefAdd (w : World) (ok : Nat → Prop) (A0 : Option Addr) (c0 : Nat) (P : List Int) (M : List S39) (e : Ending) (w' : World) : Prop :=
  ∃ B1 d1, e = .returned (.agg #[.slice A0 P.length c0, .slice B1 M.length d1]) ∧ NF w' ok A0 c0 P B1 d1 M ∧ Below w.heap.size w w'
def RefNet (w : World) (ok : Nat → Prop) (P : List Int) (M : List S39) (r : Int) (e : Ending) (w' : World) : Prop :=
  ∃ A0 c0 A1 c1, e = .returned (.tuple #[.agg #[.slice A0 P.length c0, .slice A1 M.length c1], .int .i64 r]) ∧ NF w' ok A0 c0 P A1 c1 M ∧ Below w.heap.size w w'
def RefMsg (w : World) (ok : Nat → Prop) (P : List Int) (M : List S39) (f t : Int) (body : List Int) (r : Int) (e : Ending) (w' : World) : Prop :=
  ∃ A0 c0 A1 c1 A2 c2, e = .returned (.tuple #[.agg #[.slice A0 P.length c0, .slice A1 M.length c1], .agg #[.int .i64 f, .int .i64 t, .slice A2 body.length c2], .int .i64 r]) ∧ NF w' ok A0 c0 P A1 c1 M ∧
    (Kd.F (Kd.int .u8) w' ok A2 body.length body ∧ body.length ≤ c2) ∧ Below w.heap.size w w'
section
variable {k : Nat} {w : World} {ok : Nat → Prop} {A0 A1 A : Option Addr} {c0 c1 c : Nat} {P P' : List Int} {M M' : List S39} {e : Int}
set_option maxHeartbeats 6400000 in
set_option maxRecDepth 100000 in
theorem c_without (HN : NF w ok A0 c0 P A1 c1 M) (hfr : ∀ k, w.heap.size ≤ k → ok k) (i : Nat) (hi : i < M.length) (hM : M.length ≤ 1000) :
    Calls Try.prog 47 #[.agg #[.slice A0 P.length c0, .slice A1 M.length c1], .int .i64 i] w (RefAdd w ok A0 c0 P (skip (i : Int) 0 M)) := by
  have hsk : ([] ++ M.take i) ++ M.drop (i + 1) = skip (i : Int) 0 M := by have := skip_take M i 0 (by omega) (by omega); simpa using this.symm
  have hF1 : Kd.F k39 w (fun k => ok k ∧ k < w.heap.size) A1 i (M.take i) := by
    have h := Kd.F_take (Kd.F_bound HN.m.1) (m := i) (by omega)
    rwa [show (M.take i).length = i by rw [List.length_take]; omega] at h
  have hF2 : Kd.F k39 w (fun k => ok k ∧ k < w.heap.size) (if c1 = i + 1 then A1 else A1.map (fun x => x.add ((i + 1) * 3))) (M.length - (i + 1)) (M.drop (i + 1)) := by
    have h := Kd.F_cut (Kd.F_bound HN.m.1) (m := i + 1) (by omega) HN.m.2
    rwa [List.length_drop] at h
  have e5 : IntKind.i64.wrap ((i : Int) + 1) = (i : Int) + 1 := IntWalk.i64_in _ (by omega)
  have HH := Lib.hid HN
  have hcap := HN.m.2
  clear HN
  go_enter Try.func47, Try.ntmps47
  go_wp2_with fail
  have hVs : ((w.alloc (.cells #[.slice A0 P.length c0, .slice A1 M.length c1] 25)).alloc (.cells #[.slice none 0 0, .slice none 0 0] 25)).heap.size = w.heap.size + 2 := by simp
  have hV0 := blk_alloc (blk_new w (.cells #[.slice A0 P.length c0, .slice A1 M.length c1] 25)) (.cells #[.slice none 0 0, .slice none 0 0] 25)
  have hV1 := blk_next w (.cells #[.slice A0 P.length c0, .slice A1 M.length c1] 25) #[.slice none 0 0, .slice none 0 0] 25
  have hB : Below w.heap.size w ((w.alloc (.cells #[.slice A0 P.length c0, .slice A1 M.length c1] 25)).alloc (.cells #[.slice none 0 0, .slice none 0 0] 25)) := below_alloc (below_alloc (Below.refl _ _) _) _
  generalize ((w.alloc (.cells #[.slice A0 P.length c0, .slice A1 M.length c1] 25)).alloc (.cells #[.slice none 0 0, .slice none 0 0] 25)) = V at hVs hV0 hV1 hB ⊢
  have HVS := Lib.hid hVs
  clear hVs
  have held := Lib.hid (fun (w' : World) (hb : Below V.heap.size V w') => (show w'.cell? ⟨w.heap.size, 0, none⟩ = some (.slice A0 P.length c0) ∧ w'.cell? ⟨w.heap.size, 1, none⟩ = some (.slice A1 M.length c1) ∧ w'.frozen? ⟨w.heap.size, 1, none⟩ = false ∧ Below V.heap.size V w' from ⟨(blk_cell (blk_below hV0 hb) 0).trans rfl, (blk_cell (blk_below hV0 hb) 1).trans rfl, blk_frozen (blk_below hV0 hb) 1, hb⟩))
  have hcut : 0 ≤ (i : Int) ∧ (i : Int) ≤ (c1 : Int) := by omega
  have hcut2 : 0 ≤ (i : Int) + 1 ∧ (i : Int) + 1 ≤ (M.length : Int) ∧ (M.length : Int) ≤ (c1 : Int) := by omega
  refine start_ (n := 14) (S := (fun w' => w'.cell? ⟨w.heap.size, 0, none⟩ = some (.slice A0 P.length c0) ∧ w'.cell? ⟨w.heap.size, 1, none⟩ = some (.slice A1 M.length c1) ∧ w'.frozen? ⟨w.heap.size, 1, none⟩ = false ∧ Below V.heap.size V w')) (ds := [13]) #[false, false, false, false, false, false, false, false, false, false, false, false, false, false] (by kernel_rfl) rfl rfl (held.out _ (below_drew1 (Below.refl _ _))) (fun hHeld => ?_)
  refine pure_ (i := 1) (N := some 6) (v := ?_) (a' := ?_) #[false, true, false, false, false, false, false, false, false, false, false, false, false, false] rfl rfl (by kernel_rfl) (fun _ _ _ h => h) (Or.inl ⟨by rfl, ?_⟩) ?_ ?_
  rotate_left; (intro w'; go_simp; with_reducible rfl); rotate_left; (simp only [Act.put, sA, sZ, sS, i64_w, i32_w]; rfl)
  refine take_ (i := 2) (N := some 7) (v := ?_) (a' := ?_) #[false, true, true, false, false, false, false, false, false, false, false, false, false, false] rfl rfl (by kernel_rfl) (fun _ _ _ h => h) (Or.inl ⟨by rfl, ?_⟩) hHeld ?_ ?_
  rotate_left; (rintro w' ⟨s0, s1, s2, s3⟩; go_simp; with_reducible rfl); rotate_left; (simp only [Act.put, sA, sZ, sS, i64_w, i32_w]; rfl)
  refine pure_ (i := 3) (N := some 8) (v := ?_) (a' := ?_) #[false, true, true, true, false, false, false, false, false, false, false, false, false, false] rfl rfl (by kernel_rfl) (fun _ _ _ h => h) (Or.inl ⟨by rfl, ?_⟩) ?_ ?_
  rotate_left; (intro w'; go_simp; with_reducible rfl); rotate_left; (simp only [Act.put, sA, sZ, sS, i64_w, i32_w]; rfl)
  refine pure_ (i := 4) (N := some 9) (v := ?_) (a' := ?_) #[false, true, true, true, true, false, false, false, false, false, false, false, false, false] rfl rfl (by kernel_rfl) (fun _ _ _ h => h) (Or.inl ⟨by rfl, ?_⟩) ?_ ?_
  rotate_left; (intro w'; go_simp; with_reducible rfl); rotate_left; (simp only [Act.put, sA, sZ, sS, i64_w, i32_w]; rfl)
  refine pure_ (i := 6) (N := some 11) (v := ?_) (a' := ?_) #[false, true, true, true, true, false, true, false, false, false, false, false, false, false] rfl rfl (by kernel_rfl) (fun _ _ _ h => h) (Or.inl ⟨by rfl, ?_⟩) ?_ ?_
  rotate_left; (intro w'; go_simp; with_reducible rfl); rotate_left; (simp only [Act.put, sA, sZ, sS, i64_w, i32_w]; rfl)
  refine take_ (i := 7) (N := some 12) (v := ?_) (a' := ?_) #[false, true, true, true, true, false, true, true, false, false, false, false, false, false] rfl rfl (by kernel_rfl) (fun _ _ _ h => h) (Or.inl ⟨by rfl, ?_⟩) hHeld ?_ ?_
  rotate_left; (rintro w' ⟨s0, s1, s2, s3⟩; go_simp; with_reducible rfl); rotate_left; (simp only [Act.put, sA, sZ, sS, i64_w, i32_w]; rfl)
  refine pure_ (i := 8) (N := some 13) (v := ?_) (a' := ?_) #[false, true, true, true, true, false, true, true, true, false, false, false, false, false] rfl rfl (by kernel_rfl) (fun _ _ _ h => h) (Or.inl ⟨by rfl, ?_⟩) ?_ ?_
  rotate_left; (intro w'; go_simp; with_reducible rfl); rotate_left; (simp only [Act.put, sA, sZ, sS, i64_w, i32_w]; rfl)
  refine pure_ (i := 9) (N := some 14) (v := ?_) (a' := ?_) #[false, true, true, true, true, false, true, true, true, true, false, false, false, false] rfl rfl (by kernel_rfl) (fun _ _ _ h => h) (Or.inl ⟨by rfl, ?_⟩) ?_ ?_
  rotate_left; (intro w'; go_simp; with_reducible rfl); rotate_left; (simp only [Act.put, sA, sZ, sS, i64_w, i32_w]; rfl)
  refine pure_ (i := 10) (N := some 15) (v := ?_) (a' := ?_) #[false, true, true, true, true, false, true, true, true, true, true, false, false, false] rfl rfl (by kernel_rfl) (fun _ _ _ h => h) (Or.inl ⟨by rfl, ?_⟩) ?_ ?_
  rotate_left; (intro w'; go_simp; with_reducible rfl); rotate_left; (simp only [Act.put, sA, sZ, sS, i64_w, i32_w]; rfl)
  refine one_ (i := 0) (N := some 5) #[true, true, true, true, true, false, true, true, true, true, true, false, false, false] rfl rfl (by kernel_rfl) (by decide) (fun K hK => ?_)
  go_simp
  refine hK.out _ _ (held.out _ (by first | exact below_drew1 (below_alloc (Below.refl _ _) _) | exact below_alloc (below_drew1 (Below.refl _ _)) _)) (fun hHeld => ?_)
  clear hK K
  refine norm_ (a' := ?_) ?_ ?_
  rotate_left
  · first | (simp only [Act.put, sA, sZ, sS, i64_w, i32_w]; rfl) | rfl
  refine one_ (i := 5) (N := some 10) #[true, true, true, true, true, true, true, true, true, true, true, false, false, false] rfl rfl (by kernel_rfl) (by decide) (fun K hK => ?_)
  have hE := blk_drew (blk_new V (.cells #[] 39))
  have hb1 : Below V.heap.size V (V.alloc (.cells #[] 39)).drew := below_drew1 (below_alloc (Below.refl _ _) _)
  generalize (V.alloc (.cells #[] 39)).drew = V1 at hE hb1 hHeld ⊢
  refine Kd.N_append_rows_step k39 (w0 := V) V.heap.size (by rfl) (.tmp 5) (.tmp 9) 23 39 (.agg #[.int .i64 0, .int .i64 0, .slice none 0 0]) 40 rfl Try.underlying23 info39 rfl (by decide) (by omega) (.slice (some ⟨V.heap.size, 0, none⟩) 0 0) ([] : List S39) (M.take i) A1 i c1 (fun k => V.heap.size ≤ k ∨ (ok k ∧ k < w.heap.size)) (fun k => ok k ∧ k < w.heap.size) rfl rfl (N_empty' hE (Nat.le_refl _) (.inl (Nat.le_refl _))) (Kd.F_below hF1 (below_step hB hb1)) (fun k hk => ⟨.inr hk, fun he => by (have h : k = V.heap.size := (by simpa [Value.ownBlock] using he)); have hVs := HVS.out; have hk2 := hk.2; omega⟩) (fun k hk => .inl (Nat.le_trans (Below.size (hb1)) hk)) (hb1) (Below.size (hb1)) (by simp; omega) ?_
  intro v5 w5 hN5 hb5 hg5 hat5
  refine hK.out _ _ (held.out _ hb5) (fun hHeld => ?_)
  clear hK K
  refine norm_ (a' := ?_) ?_ ?_
  rotate_left
  · first | (simp only [Act.put, sA, sZ, sS, i64_w, i32_w]; rfl) | rfl
  refine one_ (i := 11) (N := some 16) #[true, true, true, true, true, true, true, true, true, true, true, true, false, false] rfl rfl (by kernel_rfl) (by decide) (fun K hK => ?_)
  refine Kd.N_append_rows_step k39 (w0 := V) V.heap.size (by rfl) (.tmp 10) (.tmp 15) 23 39 (.agg #[.int .i64 0, .int .i64 0, .slice none 0 0]) 40 rfl Try.underlying23 info39 rfl (by decide) (by omega) v5 ([] ++ M.take i) (M.drop (i + 1)) (if c1 = i + 1 then A1 else A1.map (fun x => x.add ((i + 1) * 3))) (M.length - (i + 1)) (c1 - (i + 1)) (fun k => V.heap.size ≤ k ∨ (ok k ∧ k < w.heap.size)) (fun k => ok k ∧ k < w.heap.size) rfl rfl (hN5) (Kd.F_below hF2 (below_step hB hb5)) (fun k hk => ⟨.inr hk, fun he => by have := Kd.N_base hN5 k he.symm; have hVs := HVS.out; have hk2 := hk.2; omega⟩) (fun k hk => .inl (Nat.le_trans (Below.size (hb5)) hk)) (hb5) (Below.size (hb5)) (by simp; omega) ?_
  intro v6 w6 hN6 hb6 hg6 hat6
  rw [hsk] at hN6
  obtain ⟨A6, c6, rfl⟩ := Kd.N_slice hN6
  refine hK.out _ _ (held.out _ hb6) (fun hHeld => ?_)
  clear hK K
  refine norm_ (a' := ?_) ?_ ?_
  rotate_left
  · first | (simp only [Act.put, sA, sZ, sS, i64_w, i32_w]; rfl) | rfl
  refine pure_ (i := 12) (N := some 17) (v := ?_) (a' := ?_) #[true, true, true, true, true, true, true, true, true, true, true, true, true, false] rfl rfl (by kernel_rfl) (fun _ _ _ h => h) (Or.inl ⟨by rfl, ?_⟩) ?_ ?_
  rotate_left; (intro w'; go_simp; with_reducible rfl); rotate_left; (simp only [Act.put, sA, sZ, sS, i64_w, i32_w]; rfl)
  refine last_ (i := 13) (N := none) #[true, true, true, true, true, true, true, true, true, true, true, true, true, true] rfl rfl (by kernel_rfl) (by decide) (fun K hK => ?_)
  obtain ⟨q0, q1, q2, _⟩ := held.out _ hb6
  refine skip_ (w1 := ?_) (by rfl) rfl ?_ ?_
  rotate_left
  · go_simp
    rfl
  refine hK.out _ _ ?_
  clear hK K
  refine done_ (by kernel_rfl) ?_
  generalize (if c1 = i + 1 then A1 else A1.map (fun x => x.add ((i + 1) * 3))) = AX
  have hN7 := Kd.N_far hN6 (p := ⟨w.heap.size, 1, none⟩) (fun k hk => by rcases hk with hk | ⟨_, hk⟩ <;> (dsimp only; have hVs := HVS.out; omega)) (.slice A6 (skip (i : Int) 0 M).length c6)
  have hn7 := blk_set (blk_below hV0 hb6) 1 (.slice A6 (skip (i : Int) 0 M).length c6)
  have hr7 := blk_far (p := ⟨w.heap.size, 1, none⟩) (blk_below hV1 hb6) (by simp) (.slice A6 (skip (i : Int) 0 M).length c6)
  have hb7 := below_set (j := 1) (v := .slice A6 (skip (i : Int) 0 M).length c6) (below_step hB hb6) (Nat.le_refl _)
  generalize w6.setCell ⟨w.heap.size, 1, none⟩ (.slice A6 (skip (i : Int) 0 M).length c6) = V7 at hN7 hn7 hr7 hb7 ⊢
  have u0 : V7.cell? ⟨w.heap.size, 0, none⟩ = some (.slice A0 P.length c0) := (blk_cell hn7 0).trans rfl
  have u1 : V7.cell? ⟨w.heap.size, 1, none⟩ = some (.slice A6 (skip (i : Int) 0 M).length c6) := (blk_cell hn7 1).trans rfl
  have u2 : V7.cell? ⟨w.heap.size + 1, 0, none⟩ = some (.slice none 0 0) := (blk_cell hr7 0).trans rfl
  have u3 : V7.cell? ⟨w.heap.size + 1, 1, none⟩ = some (.slice none 0 0) := (blk_cell hr7 1).trans rfl
  have u4 := blk_frozen hr7 0
  have u5 := blk_frozen hr7 1
  clear hN6 hb6 hg6 hat6
  go_wp2_with fail
  have hb8 := below_set (g := w.heap.size + 1) (j := 1) (v := .slice A6 (skip (i : Int) 0 M).length c6) (below_set (g := w.heap.size + 1) (j := 0) (v := .slice A0 P.length c0) hb7 (by omega)) (by omega)
  have hN8 := Kd.N_far (Kd.N_far hN7 (p := ⟨w.heap.size + 1, 0, none⟩) (fun k hk => by rcases hk with hk | ⟨_, hk⟩ <;> (dsimp only; have hVs := HVS.out; omega)) (.slice A0 P.length c0)) (p := ⟨w.heap.size + 1, 1, none⟩) (fun k hk => by rcases hk with hk | ⟨_, hk⟩ <;> (dsimp only; have hVs := HVS.out; omega)) (.slice A6 (skip (i : Int) 0 M).length c6)
  refine bodyPost_ret (results_cell_row rfl _ _ (w.heap.size + 1) 25 #[.slice A0 P.length c0, .slice A6 (skip (i : Int) 0 M).length c6] (0, 0) _ rfl (blk_set (blk_set hr7 0 _) 1 _) Try.underlying25 rfl (by kernel_rfl)) rfl ?_
  obtain ⟨hF8, hl8⟩ := N_net hN8
  exact ⟨A6, c6, rfl, ⟨⟨Kd.F_below HH.out.p.1 hb8, HH.out.p.2⟩, Kd.F_mono hF8 (fun k hk => by rcases hk with hk | hk; exact hfr k (by have hVs := HVS.out; omega); exact hk.1), hl8⟩, hb8⟩
/-- A row of one element that was laid. -/
theorem F_lit {W : World} {g : Nat} {cs : List Value} {x : S39} {okq : Nat → Prop} (h : W.heap[g]? = some (.cells cs.toArray 39 (0, 0))) (hx : Kd.FK k39 W okq x cs) (hl : cs.length = 3) : Kd.F k39 W (fun k => k = g ∨ okq k) (some ⟨g, 0, none⟩) 1 [x] := fun W' hW =>
  ⟨rfl, by decide, fun _ => ⟨⟨g, 0, none⟩, rfl, fun j p hj => by
    have hg : W'.heap[g]? = some (.cells cs.toArray 39 (0, 0)) := (hW g (.inl rfl) (blk_lt h)).trans h
    match j, hj with
    | 0, hj =>
      simp only [List.getElem?_cons_zero, Option.some.injEq] at hj
      subst hj
      refine ⟨cs, hl, hx W' (fun k hk hlt => hW k (.inr hk) hlt), fun i u hu => ?_⟩
      have := World.news_of_block hg i u hu
      simpa using this
    | j + 1, hj => simp at hj⟩⟩
set_option maxHeartbeats 6400000 in
set_option maxRecDepth 100000 in
theorem c_add (HN : NF w ok A0 c0 P A1 c1 M) (hfr : ∀ k, w.heap.size ≤ k → ok k) (f t : Int) (body : List Int) (hr : Kd.C (Kd.int .u8) w A body.length body) (hc : body.length ≤ c) (hM : M.length ≤ 1000) (hb : body.length ≤ 1000000) :
    Calls Try.prog 45 #[.agg #[.slice A0 P.length c0, .slice A1 M.length c1], .agg #[.int .i64 f, .int .i64 t, .slice A body.length c]] w (RefAdd w ok A0 c0 P (M ++ [⟨f, t, body⟩])) := by
  have HH := Lib.hid HN
  have HR := Lib.hid hr
  have hF1 := Kd.F_bound HN.m.1
  clear HN hr
  go_enter Try.func45, Try.ntmps45
  go_wp2_with (first
    | ((with_reducible refine gate_dst (N := 5) rfl ?_); refine Kd.R_lit (Kd.int .u8) _ 5 ?hg (N := 5) ?hd (xs := ([] : List Int)) (inner := []) (ok := fun _ => True) (okp := fun _ => True) ?hr ?hp (fun _ hk => hk) trivial (Below.refl _ _) (Nat.le_refl _) (by simp) ?_; (case hd => rfl); (case hg => rfl); (case hr => first | (go_simp; done) | (go_simp; rfl)); (case hp => exact (Reps.none _ _)); intro v5 w3 hR5 hb3 hg_ hnew_; clear hg_ hnew_
       have hU0 := blk_alloc (blk_alloc (blk_new w (.cells #[.slice A0 P.length c0, .slice A1 M.length c1] 25)) (.cells #[.int .i64 f, .int .i64 t, .slice A body.length c] 39)) (.cells #[.slice none 0 0, .slice none 0 0] 25)
       have hUm := blk_alloc (blk_next w (.cells #[.slice A0 P.length c0, .slice A1 M.length c1] 25) #[.int .i64 f, .int .i64 t, .slice A body.length c] 39) (.cells #[.slice none 0 0, .slice none 0 0] 25)
       have hUr := blk_next2 w (.cells #[.slice A0 P.length c0, .slice A1 M.length c1] 25) (.cells #[.int .i64 f, .int .i64 t, .slice A body.length c] 39) #[.slice none 0 0, .slice none 0 0] 25
       have hUB : Below w.heap.size w ((((w.alloc (.cells #[.slice A0 P.length c0, .slice A1 M.length c1] 25)).alloc (.cells #[.int .i64 f, .int .i64 t, .slice A body.length c] 39))).alloc (.cells #[.slice none 0 0, .slice none 0 0] 25)) := below_alloc (below_alloc (below_alloc (Below.refl _ _) _) _) _
       have hUs : ((((w.alloc (.cells #[.slice A0 P.length c0, .slice A1 M.length c1] 25)).alloc (.cells #[.int .i64 f, .int .i64 t, .slice A body.length c] 39))).alloc (.cells #[.slice none 0 0, .slice none 0 0] 25)).heap.size = w.heap.size + 3 := by simp
       generalize ((((w.alloc (.cells #[.slice A0 P.length c0, .slice A1 M.length c1] 25)).alloc (.cells #[.int .i64 f, .int .i64 t, .slice A body.length c] 39))).alloc (.cells #[.slice none 0 0, .slice none 0 0] 25)) = U at hR5 hb3 hU0 hUm hUr hUB hUs
       have HUS := Lib.hid hUs
       clear hUs
       have m2 : w3.cell? ⟨w.heap.size + 1, 2, none⟩ = some (.slice A body.length c) := (blk_cell (blk_below hUm hb3) 2).trans rfl)
    | ((with_reducible refine gate_builtin (b := .append) (xs := #[.tmp 5, .tmp 7]) rfl ?_); at_builtin; refine Kd.R_append_rows (Kd.int .u8) (w0 := U) U.heap.size rfl (.tmp 5) (.tmp 7) 37 5 (.int .u8 0) 1 rfl Try.underlying37 info5 rfl (by decide) (by omega) v5 ([] : List Int) body _ _ _ (fun _ => True) (fun _ => False) rfl rfl hR5 (Kd.C_below HR.out (below_step hUB hb3)) (fun _ _ h => h) (fun _ h => h.elim) (fun _ _ => trivial) hb3 hb3.size (by simp; omega) ?_; intro v8 w4 hR8 hb4 hg4 hat4
       rw [List.nil_append] at hR8
       obtain ⟨A8, c8, rfl⟩ := Kd.R_slice hR8
       have m3 : w4.cell? ⟨w.heap.size + 1, 2, none⟩ = some (.slice A body.length c) := (blk_cell (blk_below hUm hb4) 2).trans rfl
       have m4 := blk_frozen (blk_below hUm hb4) 2))
  have hV0 := blk_far (p := ⟨w.heap.size + 1, 2, none⟩) (blk_below hU0 hb4) (by simp) (.slice A8 body.length c8)
  have hVm := blk_set (blk_below hUm hb4) 2 (.slice A8 body.length c8)
  have hV1 := blk_far (p := ⟨w.heap.size + 1, 2, none⟩) (blk_below hUr hb4) (by simp) (.slice A8 body.length c8)
  have hB := below_set (g := w.heap.size + 1) (j := 2) (v := .slice A8 body.length c8) (below_step hUB hb4) (by omega)
  have hc8 := (Kd.R_reads' hR8).2.1
  have hF8 : Kd.F (Kd.int .u8) (w4.setCell ⟨w.heap.size + 1, 2, none⟩ (.slice A8 body.length c8)) (fun k => w.heap.size + 3 ≤ k ∧ k < (w4.setCell ⟨w.heap.size + 1, 2, none⟩ (.slice A8 body.length c8)).heap.size) A8 body.length body := by
    have h := Kd.R_F (Kd.R_mono (Kd.R_bound hR8) (ok' := fun k => w.heap.size + 3 ≤ k) (fun k hk => by have h1 := hk.2.1; have h2 := HUS.out; omega))
    exact Kd.F_bound (Kd.F_far h (p := ⟨w.heap.size + 1, 2, none⟩) (fun k hk => by dsimp only; omega) (.slice A8 body.length c8))
  have hVs : w.heap.size + 3 ≤ (w4.setCell ⟨w.heap.size + 1, 2, none⟩ (.slice A8 body.length c8)).heap.size := by
    have h1 := hb4.size
    have h2 := HUS.out
    simp [World.setCell]
    omega
  generalize w4.setCell ⟨w.heap.size + 1, 2, none⟩ (.slice A8 body.length c8) = V at hV0 hVm hV1 hB hF8 hVs ⊢
  have HVS := Lib.hid hVs
  clear hVs m2 m3 m4 hR5 hR8 hb3 hb4 hg4 hat4
  have held := Lib.hid (fun (w' : World) (hb : Below V.heap.size V w') => (show w'.cell? ⟨w.heap.size, 0, none⟩ = some (.slice A0 P.length c0) ∧ w'.cell? ⟨w.heap.size, 1, none⟩ = some (.slice A1 M.length c1) ∧ w'.frozen? ⟨w.heap.size, 1, none⟩ = false ∧ w'.cell? ⟨w.heap.size + 1, 0, none⟩ = some (.int .i64 f) ∧ w'.cell? ⟨w.heap.size + 1, 1, none⟩ = some (.int .i64 t) ∧ w'.cell? ⟨w.heap.size + 1, 2, none⟩ = some (.slice A8 body.length c8) ∧ Below V.heap.size V w' from ⟨(blk_cell (blk_below hV0 hb) 0).trans rfl, (blk_cell (blk_below hV0 hb) 1).trans rfl, blk_frozen (blk_below hV0 hb) 1, (blk_cell (blk_below hVm hb) 0).trans rfl, (blk_cell (blk_below hVm hb) 1).trans rfl, (blk_cell (blk_below hVm hb) 2).trans rfl, hb⟩))
  refine start_ (n := 9) (S := (fun w' => w'.cell? ⟨w.heap.size, 0, none⟩ = some (.slice A0 P.length c0) ∧ w'.cell? ⟨w.heap.size, 1, none⟩ = some (.slice A1 M.length c1) ∧ w'.frozen? ⟨w.heap.size, 1, none⟩ = false ∧ w'.cell? ⟨w.heap.size + 1, 0, none⟩ = some (.int .i64 f) ∧ w'.cell? ⟨w.heap.size + 1, 1, none⟩ = some (.int .i64 t) ∧ w'.cell? ⟨w.heap.size + 1, 2, none⟩ = some (.slice A8 body.length c8) ∧ Below V.heap.size V w')) (ds := [8]) #[false, false, false, false, false, false, false, false, false] (by kernel_rfl) rfl rfl (held.out _ (below_drew1 (Below.refl _ _))) (fun hHeld => ?_)
  refine pure_ (i := 1) (N := some 11) (v := ?_) (a' := ?_) #[false, true, false, false, false, false, false, false, false] rfl rfl (by kernel_rfl) (fun _ _ _ h => h) (Or.inl ⟨by rfl, ?_⟩) ?_ ?_
  rotate_left; (intro w'; go_simp; with_reducible rfl); rotate_left; (simp only [Act.put, sA, sZ, sS, i64_w, i32_w]; rfl)
  refine take_ (i := 2) (N := some 12) (v := ?_) (a' := ?_) #[false, true, true, false, false, false, false, false, false] rfl rfl (by kernel_rfl) (fun _ _ _ h => h) (Or.inl ⟨by rfl, ?_⟩) hHeld ?_ ?_
  rotate_left; (rintro w' ⟨s0, s1, s2, s3, s4, s5, s6⟩; go_simp; with_reducible rfl); rotate_left; (simp only [Act.put, sA, sZ, sS, i64_w, i32_w]; rfl)
  refine take_ (i := 4) (N := some 14) (v := ?_) (a' := ?_) #[false, true, true, false, true, false, false, false, false] rfl rfl (by kernel_rfl) (fun _ _ _ h => h) (Or.inl ⟨by rfl, ?_⟩) hHeld ?_ ?_
  rotate_left; (rintro w' ⟨s0, s1, s2, s3, s4, s5, s6⟩; go_simp; with_reducible rfl); rotate_left; (simp only [Act.put, sA, sZ, sS, i64_w, i32_w]; rfl)
  refine two_ (i := 0) (j := 5) (Ni := some 10) (Nj := some 15) #[true, true, true, false, true, false, false, false, false] #[false, true, true, false, true, true, false, false, false] rfl rfl rfl rfl (by kernel_rfl) (by decide) (by decide) (fun K hK => ?_) (fun K hK => ?_)
  · go_simp
    refine hK.out _ _ (held.out _ (below_drew1 (below_alloc (Below.refl _ _) _))) (fun hHeld => ?_)
    clear hK K
    refine norm_ (a' := ?_) ?_ ?_
    rotate_left
    · first | (simp only [Act.put, sA, sZ, sS, i64_w, i32_w]; rfl) | rfl
    have hE := blk_drew (blk_new V (.cells #[] 39))
    have hbx : Below V.heap.size V (V.alloc (.cells #[] 39)).drew := below_drew1 (below_alloc (Below.refl _ _) _)
    have hq0 := Below.refl V.heap.size V
    generalize (V.alloc (.cells #[] 39)).drew = X1 at hE hbx hHeld ⊢
    refine two_ (i := 3) (j := 5) (Ni := some 13) (Nj := some 15) #[true, true, true, true, true, false, false, false, false] #[true, true, true, false, true, true, false, false, false] rfl rfl rfl rfl (by kernel_rfl) (by decide) (by decide) (fun K hK => ?_) (fun K hK => ?_)
    · refine Kd.N_append_rows_step k39 (w0 := V) V.heap.size (by rfl) (.tmp 10) (.tmp 12) 23 39 (.agg #[.int .i64 0, .int .i64 0, .slice none 0 0]) 40 rfl Try.underlying23 info39 rfl (by decide) (by omega) (.slice (some ⟨V.heap.size, 0, none⟩) 0 0) ([] : List S39) M A1 M.length c1 (fun k => w.heap.size + 3 ≤ k ∨ (ok k ∧ k < w.heap.size)) (fun k => ok k ∧ k < w.heap.size) rfl rfl (N_empty' hE (Below.size hq0) (.inl (by have := Below.size hq0; have hVs := HVS.out; omega))) (Kd.F_below hF1 (below_step hB hbx)) (fun k hk => ⟨.inr hk, fun he => by (have h : k = V.heap.size := (by simpa [Value.ownBlock] using he)); have := Below.size hq0; have hVs := HVS.out; have hk2 := hk.2; omega⟩) (fun k hk => .inl (by have := Below.size (hbx); have hVs := HVS.out; omega)) (hbx) (Below.size (hbx)) (by simp; omega) ?_
      intro v5 w5 hN5 hb5 hg5 hat5
      refine hK.out _ _ (held.out _ hb5) (fun hHeld => ?_)
      clear hK K
      refine norm_ (a' := ?_) ?_ ?_
      rotate_left
      · first | (simp only [Act.put, sA, sZ, sS, i64_w, i32_w]; rfl) | rfl
      refine one_ (i := 5) (N := some 15) #[true, true, true, true, true, true, false, false, false] rfl rfl (by kernel_rfl) (by decide) (fun K hK => ?_)
      go_simp
      refine hK.out _ _ (held.out _ (below_alloc hb5 _)) (fun hHeld => ?_)
      clear hK K
      refine norm_ (a' := ?_) ?_ ?_
      rotate_left
      · first | (simp only [Act.put, sA, sZ, sS, i64_w, i32_w]; rfl) | rfl
      have hL := blk_new w5 (.cells #[.int .i64 f, .int .i64 t, .slice A8 body.length c8] 39)
      have hgl := hb5.size
      have hgne : some w5.heap.size ≠ v5.ownBlock := fun he => by have := Kd.N_lt hN5 _ he.symm; omega
      have hN52 := Kd.N_alloc hN5 (.cells #[.int .i64 f, .int .i64 t, .slice A8 body.length c8] 39)
      have hb52 := below_alloc hb5 (.cells #[.int .i64 f, .int .i64 t, .slice A8 body.length c8] 39)
      generalize w5.alloc (.cells #[.int .i64 f, .int .i64 t, .slice A8 body.length c8] 39) = X2 at hL hN52 hb52 hHeld ⊢
      clear hg5 hat5
      have hN5' := hN52
      refine one_ (i := 6) (N := some 16) #[true, true, true, true, true, true, true, false, false] rfl rfl (by kernel_rfl) (by decide) (fun K hK => ?_)
      refine Kd.N_append_rows_step k39 (w0 := V) V.heap.size (by rfl) (.tmp 13) (.tmp 15) 23 39 (.agg #[.int .i64 0, .int .i64 0, .slice none 0 0]) 40 rfl Try.underlying23 info39 rfl (by decide) (by omega) v5 ([] ++ M) [(⟨f, t, body⟩ : S39)] (some ⟨w5.heap.size, 0, none⟩) 1 1 (fun k => w.heap.size + 3 ≤ k ∨ (ok k ∧ k < w.heap.size)) (fun k => k = w5.heap.size ∨ (w.heap.size + 3 ≤ k ∧ k < V.heap.size)) rfl rfl (hN5') (F_lit hL (k39_mkF _ _ (⟨f, t, body⟩ : S39) hc8 (Kd.F_below hF8 hb52)) rfl) (fun k hk => by rcases hk with rfl | hk; exact ⟨.inl (by have hVs := HVS.out; have := hgl; omega), hgne⟩; exact ⟨.inl hk.1, fun he => by have := Kd.N_base hN5' k he.symm; omega⟩) (fun k hk => .inl (by have := Below.size (hb52); have hVs := HVS.out; omega)) (hb52) (Below.size (hb52)) (by simp; omega) ?_
      intro v6 w6 hN6 hb6 hg6 hat6
      rw [List.nil_append] at hN6
      obtain ⟨A6, c6, hv6⟩ := Kd.N_slice hN6
      rw [List.length_append, List.length_singleton] at hv6
      subst hv6
      refine hK.out _ _ (held.out _ hb6) (fun hHeld => ?_)
      clear hK K
      refine norm_ (a' := ?_) ?_ ?_
      rotate_left
      · first | (simp only [Act.put, sA, sZ, sS, i64_w, i32_w]; rfl) | rfl
      refine pure_ (i := 7) (N := some 17) (v := ?_) (a' := ?_) #[true, true, true, true, true, true, true, true, false] rfl rfl (by kernel_rfl) (fun _ _ _ h => h) (Or.inl ⟨by rfl, ?_⟩) ?_ ?_
      rotate_left; (intro w'; go_simp; with_reducible rfl); rotate_left; (simp only [Act.put, sA, sZ, sS, i64_w, i32_w]; rfl)
      refine last_ (i := 8) (N := none) #[true, true, true, true, true, true, true, true, true] rfl rfl (by kernel_rfl) (by decide) (fun K hK => ?_)
      obtain ⟨q0, q1, q2, _⟩ := held.out _ hb6
      refine skip_ (w1 := ?_) (by rfl) rfl ?_ ?_
      rotate_left
      · go_simp
        rfl
      refine hK.out _ _ ?_
      clear hK K
      refine done_ (by kernel_rfl) ?_
      have hN7 := Kd.N_far hN6 (p := ⟨w.heap.size, 1, none⟩) (fun k hk => by rcases hk with hk | ⟨_, hk⟩ <;> (dsimp only; have hVs := HVS.out; omega)) (.slice A6 (M.length + 1) c6)
      have hn7 := blk_set (blk_below hV0 hb6) 1 (.slice A6 (M.length + 1) c6)
      have hr7 := blk_far (p := ⟨w.heap.size, 1, none⟩) (blk_below hV1 hb6) (by simp) (.slice A6 (M.length + 1) c6)
      have hb7 := below_set (j := 1) (v := .slice A6 (M.length + 1) c6) (below_step hB hb6) (Nat.le_refl _)
      generalize w6.setCell ⟨w.heap.size, 1, none⟩ (.slice A6 (M.length + 1) c6) = V7 at hN7 hn7 hr7 hb7 ⊢
      have u0 : V7.cell? ⟨w.heap.size, 0, none⟩ = some (.slice A0 P.length c0) := (blk_cell hn7 0).trans rfl
      have u1 : V7.cell? ⟨w.heap.size, 1, none⟩ = some (.slice A6 (M.length + 1) c6) := (blk_cell hn7 1).trans rfl
      have u2 : V7.cell? ⟨w.heap.size + 2, 0, none⟩ = some (.slice none 0 0) := (blk_cell hr7 0).trans rfl
      have u3 : V7.cell? ⟨w.heap.size + 2, 1, none⟩ = some (.slice none 0 0) := (blk_cell hr7 1).trans rfl
      have u4 := blk_frozen hr7 0
      have u5 := blk_frozen hr7 1
      clear hN6 hb6 hg6 hat6
      go_wp2_with fail
      have hb8 := below_set (g := w.heap.size + 2) (j := 1) (v := .slice A6 (M.length + 1) c6) (below_set (g := w.heap.size + 2) (j := 0) (v := .slice A0 P.length c0) hb7 (by omega)) (by omega)
      have hN8 := Kd.N_far (Kd.N_far hN7 (p := ⟨w.heap.size + 2, 0, none⟩) (fun k hk => by rcases hk with hk | ⟨_, hk⟩ <;> (dsimp only; have hVs := HVS.out; omega)) (.slice A0 P.length c0)) (p := ⟨w.heap.size + 2, 1, none⟩) (fun k hk => by rcases hk with hk | ⟨_, hk⟩ <;> (dsimp only; have hVs := HVS.out; omega)) (.slice A6 (M.length + 1) c6)
      refine bodyPost_ret (results_cell_row rfl _ _ (w.heap.size + 2) 25 #[.slice A0 P.length c0, .slice A6 (M.length + 1) c6] (0, 0) _ rfl (blk_set (blk_set hr7 0 _) 1 _) Try.underlying25 rfl (by kernel_rfl)) rfl ?_
      obtain ⟨hF8, hl8⟩ := N_net hN8
      exact ⟨A6, c6, by rw [List.length_append, List.length_singleton], ⟨⟨Kd.F_below HH.out.p.1 hb8, HH.out.p.2⟩, Kd.F_mono hF8 (fun k hk => by rcases hk with hk | hk; exact hfr k (by have hVs := HVS.out; omega); exact hk.1), hl8⟩, hb8⟩
    · go_simp
      refine hK.out _ _ (held.out _ (below_alloc hbx _)) (fun hHeld => ?_)
      clear hK K
      refine norm_ (a' := ?_) ?_ ?_
      rotate_left
      · first | (simp only [Act.put, sA, sZ, sS, i64_w, i32_w]; rfl) | rfl
      have hL := blk_new X1 (.cells #[.int .i64 f, .int .i64 t, .slice A8 body.length c8] 39)
      have hlt0 := blk_lt hE
      have hgl := hbx.size
      have hE2 := blk_alloc hE (.cells #[.int .i64 f, .int .i64 t, .slice A8 body.length c8] 39)
      have hbx2 := below_alloc hbx (.cells #[.int .i64 f, .int .i64 t, .slice A8 body.length c8] 39)
      generalize X1.alloc (.cells #[.int .i64 f, .int .i64 t, .slice A8 body.length c8] 39) = X2 at hL hE2 hbx2 hHeld ⊢
      clear hE hbx
      have hE := hE2
      have hbx := hbx2
      have hne : some X1.heap.size ≠ (Value.slice (some ⟨V.heap.size, 0, none⟩) 0 0).ownBlock := fun he => by (have h : X1.heap.size = V.heap.size := (by simpa [Value.ownBlock] using he)); have := hlt0; omega
      refine one_ (i := 3) (N := some 13) #[true, true, true, true, true, true, false, false, false] rfl rfl (by kernel_rfl) (by decide) (fun K hK => ?_)
      refine Kd.N_append_rows_step k39 (w0 := V) V.heap.size (by rfl) (.tmp 10) (.tmp 12) 23 39 (.agg #[.int .i64 0, .int .i64 0, .slice none 0 0]) 40 rfl Try.underlying23 info39 rfl (by decide) (by omega) (.slice (some ⟨V.heap.size, 0, none⟩) 0 0) ([] : List S39) M A1 M.length c1 (fun k => w.heap.size + 3 ≤ k ∨ (ok k ∧ k < w.heap.size)) (fun k => ok k ∧ k < w.heap.size) rfl rfl (N_empty' hE (Below.size hq0) (.inl (by have := Below.size hq0; have hVs := HVS.out; omega))) (Kd.F_below hF1 (below_step hB hbx)) (fun k hk => ⟨.inr hk, fun he => by (have h : k = V.heap.size := (by simpa [Value.ownBlock] using he)); have := Below.size hq0; have hVs := HVS.out; have hk2 := hk.2; omega⟩) (fun k hk => .inl (by have := Below.size (hbx); have hVs := HVS.out; omega)) (hbx) (Below.size (hbx)) (by simp; omega) ?_
      intro v5 w5 hN5 hb5 hg5 hat5
      refine hK.out _ _ (held.out _ hb5) (fun hHeld => ?_)
      clear hK K
      refine norm_ (a' := ?_) ?_ ?_
      rotate_left
      · first | (simp only [Act.put, sA, sZ, sS, i64_w, i32_w]; rfl) | rfl
      have hL5 := (hg5.block X1.heap.size (blk_lt hL) hne).trans hL
      have hgne : some X1.heap.size ≠ v5.ownBlock := by
        rcases hat5 with h | ⟨b, h, hle⟩
        · rw [h]; exact hne
        · rw [h]; intro he; injection he with he; have := blk_lt hL; omega
      replace hL := hL5
      refine one_ (i := 6) (N := some 16) #[true, true, true, true, true, true, true, false, false] rfl rfl (by kernel_rfl) (by decide) (fun K hK => ?_)
      refine Kd.N_append_rows_step k39 (w0 := V) V.heap.size (by rfl) (.tmp 13) (.tmp 15) 23 39 (.agg #[.int .i64 0, .int .i64 0, .slice none 0 0]) 40 rfl Try.underlying23 info39 rfl (by decide) (by omega) v5 ([] ++ M) [(⟨f, t, body⟩ : S39)] (some ⟨X1.heap.size, 0, none⟩) 1 1 (fun k => w.heap.size + 3 ≤ k ∨ (ok k ∧ k < w.heap.size)) (fun k => k = X1.heap.size ∨ (w.heap.size + 3 ≤ k ∧ k < V.heap.size)) rfl rfl (hN5) (F_lit hL (k39_mkF _ _ (⟨f, t, body⟩ : S39) hc8 (Kd.F_below hF8 hb5)) rfl) (fun k hk => by rcases hk with rfl | hk; exact ⟨.inl (by have hVs := HVS.out; have := hgl; omega), hgne⟩; exact ⟨.inl hk.1, fun he => by have := Kd.N_base hN5 k he.symm; omega⟩) (fun k hk => .inl (by have := Below.size (hb5); have hVs := HVS.out; omega)) (hb5) (Below.size (hb5)) (by simp; omega) ?_
      intro v6 w6 hN6 hb6 hg6 hat6
      rw [List.nil_append] at hN6
      obtain ⟨A6, c6, hv6⟩ := Kd.N_slice hN6
      rw [List.length_append, List.length_singleton] at hv6
      subst hv6
      refine hK.out _ _ (held.out _ hb6) (fun hHeld => ?_)
      clear hK K
      refine norm_ (a' := ?_) ?_ ?_
      rotate_left
      · first | (simp only [Act.put, sA, sZ, sS, i64_w, i32_w]; rfl) | rfl
      refine pure_ (i := 7) (N := some 17) (v := ?_) (a' := ?_) #[true, true, true, true, true, true, true, true, false] rfl rfl (by kernel_rfl) (fun _ _ _ h => h) (Or.inl ⟨by rfl, ?_⟩) ?_ ?_
      rotate_left; (intro w'; go_simp; with_reducible rfl); rotate_left; (simp only [Act.put, sA, sZ, sS, i64_w, i32_w]; rfl)
      refine last_ (i := 8) (N := none) #[true, true, true, true, true, true, true, true, true] rfl rfl (by kernel_rfl) (by decide) (fun K hK => ?_)
      obtain ⟨q0, q1, q2, _⟩ := held.out _ hb6
      refine skip_ (w1 := ?_) (by rfl) rfl ?_ ?_
      rotate_left
      · go_simp
        rfl
      refine hK.out _ _ ?_
      clear hK K
      refine done_ (by kernel_rfl) ?_
      have hN7 := Kd.N_far hN6 (p := ⟨w.heap.size, 1, none⟩) (fun k hk => by rcases hk with hk | ⟨_, hk⟩ <;> (dsimp only; have hVs := HVS.out; omega)) (.slice A6 (M.length + 1) c6)
      have hn7 := blk_set (blk_below hV0 hb6) 1 (.slice A6 (M.length + 1) c6)
      have hr7 := blk_far (p := ⟨w.heap.size, 1, none⟩) (blk_below hV1 hb6) (by simp) (.slice A6 (M.length + 1) c6)
      have hb7 := below_set (j := 1) (v := .slice A6 (M.length + 1) c6) (below_step hB hb6) (Nat.le_refl _)
      generalize w6.setCell ⟨w.heap.size, 1, none⟩ (.slice A6 (M.length + 1) c6) = V7 at hN7 hn7 hr7 hb7 ⊢
      have u0 : V7.cell? ⟨w.heap.size, 0, none⟩ = some (.slice A0 P.length c0) := (blk_cell hn7 0).trans rfl
      have u1 : V7.cell? ⟨w.heap.size, 1, none⟩ = some (.slice A6 (M.length + 1) c6) := (blk_cell hn7 1).trans rfl
      have u2 : V7.cell? ⟨w.heap.size + 2, 0, none⟩ = some (.slice none 0 0) := (blk_cell hr7 0).trans rfl
      have u3 : V7.cell? ⟨w.heap.size + 2, 1, none⟩ = some (.slice none 0 0) := (blk_cell hr7 1).trans rfl
      have u4 := blk_frozen hr7 0
      have u5 := blk_frozen hr7 1
      clear hN6 hb6 hg6 hat6
      go_wp2_with fail
      have hb8 := below_set (g := w.heap.size + 2) (j := 1) (v := .slice A6 (M.length + 1) c6) (below_set (g := w.heap.size + 2) (j := 0) (v := .slice A0 P.length c0) hb7 (by omega)) (by omega)
      have hN8 := Kd.N_far (Kd.N_far hN7 (p := ⟨w.heap.size + 2, 0, none⟩) (fun k hk => by rcases hk with hk | ⟨_, hk⟩ <;> (dsimp only; have hVs := HVS.out; omega)) (.slice A0 P.length c0)) (p := ⟨w.heap.size + 2, 1, none⟩) (fun k hk => by rcases hk with hk | ⟨_, hk⟩ <;> (dsimp only; have hVs := HVS.out; omega)) (.slice A6 (M.length + 1) c6)
      refine bodyPost_ret (results_cell_row rfl _ _ (w.heap.size + 2) 25 #[.slice A0 P.length c0, .slice A6 (M.length + 1) c6] (0, 0) _ rfl (blk_set (blk_set hr7 0 _) 1 _) Try.underlying25 rfl (by kernel_rfl)) rfl ?_
      obtain ⟨hF8, hl8⟩ := N_net hN8
      exact ⟨A6, c6, by rw [List.length_append, List.length_singleton], ⟨⟨Kd.F_below HH.out.p.1 hb8, HH.out.p.2⟩, Kd.F_mono hF8 (fun k hk => by rcases hk with hk | hk; exact hfr k (by have hVs := HVS.out; omega); exact hk.1), hl8⟩, hb8⟩
  · go_simp
    refine hK.out _ _ (held.out _ (below_drew1 (below_alloc (Below.refl _ _) _))) (fun hHeld => ?_)
    clear hK K
    refine norm_ (a' := ?_) ?_ ?_
    rotate_left
    · first | (simp only [Act.put, sA, sZ, sS, i64_w, i32_w]; rfl) | rfl
    have hL := blk_drew (blk_new V (.cells #[.int .i64 f, .int .i64 t, .slice A8 body.length c8] 39))
    have hbx : Below V.heap.size V (V.alloc (.cells #[.int .i64 f, .int .i64 t, .slice A8 body.length c8] 39)).drew := below_drew1 (below_alloc (Below.refl _ _) _)
    have hgl := Nat.le_refl V.heap.size
    generalize (V.alloc (.cells #[.int .i64 f, .int .i64 t, .slice A8 body.length c8] 39)).drew = X1 at hL hbx hHeld ⊢
    refine one_ (i := 0) (N := some 10) #[true, true, true, false, true, true, false, false, false] rfl rfl (by kernel_rfl) (by decide) (fun K hK => ?_)
    go_simp
    refine hK.out _ _ (held.out _ (below_alloc hbx _)) (fun hHeld => ?_)
    clear hK K
    refine norm_ (a' := ?_) ?_ ?_
    rotate_left
    · first | (simp only [Act.put, sA, sZ, sS, i64_w, i32_w]; rfl) | rfl
    have hE := blk_new X1 (.cells #[] 39)
    have hlt0 := blk_lt hL
    have hq0 := hbx
    have hL2 := blk_alloc hL (.cells #[] 39)
    have hbx2 := below_alloc hbx (.cells #[] 39)
    generalize X1.alloc (.cells #[] 39) = X2 at hE hL2 hbx2 hHeld ⊢
    clear hL hbx
    have hL := hL2
    have hbx := hbx2
    have hne : some V.heap.size ≠ (Value.slice (some ⟨X1.heap.size, 0, none⟩) 0 0).ownBlock := fun he => by (have h : V.heap.size = X1.heap.size := (by simpa [Value.ownBlock] using he)); have := hlt0; omega
    refine one_ (i := 3) (N := some 13) #[true, true, true, true, true, true, false, false, false] rfl rfl (by kernel_rfl) (by decide) (fun K hK => ?_)
    refine Kd.N_append_rows_step k39 (w0 := V) V.heap.size (by rfl) (.tmp 10) (.tmp 12) 23 39 (.agg #[.int .i64 0, .int .i64 0, .slice none 0 0]) 40 rfl Try.underlying23 info39 rfl (by decide) (by omega) (.slice (some ⟨X1.heap.size, 0, none⟩) 0 0) ([] : List S39) M A1 M.length c1 (fun k => w.heap.size + 3 ≤ k ∨ (ok k ∧ k < w.heap.size)) (fun k => ok k ∧ k < w.heap.size) rfl rfl (N_empty' hE (Below.size hq0) (.inl (by have := Below.size hq0; have hVs := HVS.out; omega))) (Kd.F_below hF1 (below_step hB hbx)) (fun k hk => ⟨.inr hk, fun he => by (have h : k = X1.heap.size := (by simpa [Value.ownBlock] using he)); have := Below.size hq0; have hVs := HVS.out; have hk2 := hk.2; omega⟩) (fun k hk => .inl (by have := Below.size (hbx); have hVs := HVS.out; omega)) (hbx) (Below.size (hbx)) (by simp; omega) ?_
    intro v5 w5 hN5 hb5 hg5 hat5
    refine hK.out _ _ (held.out _ hb5) (fun hHeld => ?_)
    clear hK K
    refine norm_ (a' := ?_) ?_ ?_
    rotate_left
    · first | (simp only [Act.put, sA, sZ, sS, i64_w, i32_w]; rfl) | rfl
    have hL5 := (hg5.block V.heap.size (blk_lt hL) hne).trans hL
    have hgne : some V.heap.size ≠ v5.ownBlock := by
      rcases hat5 with h | ⟨b, h, hle⟩
      · rw [h]; exact hne
      · rw [h]; intro he; injection he with he; have := blk_lt hL; omega
    replace hL := hL5
    refine one_ (i := 6) (N := some 16) #[true, true, true, true, true, true, true, false, false] rfl rfl (by kernel_rfl) (by decide) (fun K hK => ?_)
    refine Kd.N_append_rows_step k39 (w0 := V) V.heap.size (by rfl) (.tmp 13) (.tmp 15) 23 39 (.agg #[.int .i64 0, .int .i64 0, .slice none 0 0]) 40 rfl Try.underlying23 info39 rfl (by decide) (by omega) v5 ([] ++ M) [(⟨f, t, body⟩ : S39)] (some ⟨V.heap.size, 0, none⟩) 1 1 (fun k => w.heap.size + 3 ≤ k ∨ (ok k ∧ k < w.heap.size)) (fun k => k = V.heap.size ∨ (w.heap.size + 3 ≤ k ∧ k < V.heap.size)) rfl rfl (hN5) (F_lit hL (k39_mkF _ _ (⟨f, t, body⟩ : S39) hc8 (Kd.F_below hF8 hb5)) rfl) (fun k hk => by rcases hk with rfl | hk; exact ⟨.inl (by have hVs := HVS.out; have := hgl; omega), hgne⟩; exact ⟨.inl hk.1, fun he => by have := Kd.N_base hN5 k he.symm; omega⟩) (fun k hk => .inl (by have := Below.size (hb5); have hVs := HVS.out; omega)) (hb5) (Below.size (hb5)) (by simp; omega) ?_
    intro v6 w6 hN6 hb6 hg6 hat6
    rw [List.nil_append] at hN6
    obtain ⟨A6, c6, hv6⟩ := Kd.N_slice hN6
    rw [List.length_append, List.length_singleton] at hv6
    subst hv6
    refine hK.out _ _ (held.out _ hb6) (fun hHeld => ?_)
    clear hK K
    refine norm_ (a' := ?_) ?_ ?_
    rotate_left
    · first | (simp only [Act.put, sA, sZ, sS, i64_w, i32_w]; rfl) | rfl
    refine pure_ (i := 7) (N := some 17) (v := ?_) (a' := ?_) #[true, true, true, true, true, true, true, true, false] rfl rfl (by kernel_rfl) (fun _ _ _ h => h) (Or.inl ⟨by rfl, ?_⟩) ?_ ?_
    rotate_left; (intro w'; go_simp; with_reducible rfl); rotate_left; (simp only [Act.put, sA, sZ, sS, i64_w, i32_w]; rfl)
    refine last_ (i := 8) (N := none) #[true, true, true, true, true, true, true, true, true] rfl rfl (by kernel_rfl) (by decide) (fun K hK => ?_)
    obtain ⟨q0, q1, q2, _⟩ := held.out _ hb6
    refine skip_ (w1 := ?_) (by rfl) rfl ?_ ?_
    rotate_left
    · go_simp
      rfl
    refine hK.out _ _ ?_
    clear hK K
    refine done_ (by kernel_rfl) ?_
    have hN7 := Kd.N_far hN6 (p := ⟨w.heap.size, 1, none⟩) (fun k hk => by rcases hk with hk | ⟨_, hk⟩ <;> (dsimp only; have hVs := HVS.out; omega)) (.slice A6 (M.length + 1) c6)
    have hn7 := blk_set (blk_below hV0 hb6) 1 (.slice A6 (M.length + 1) c6)
    have hr7 := blk_far (p := ⟨w.heap.size, 1, none⟩) (blk_below hV1 hb6) (by simp) (.slice A6 (M.length + 1) c6)
    have hb7 := below_set (j := 1) (v := .slice A6 (M.length + 1) c6) (below_step hB hb6) (Nat.le_refl _)
    generalize w6.setCell ⟨w.heap.size, 1, none⟩ (.slice A6 (M.length + 1) c6) = V7 at hN7 hn7 hr7 hb7 ⊢
    have u0 : V7.cell? ⟨w.heap.size, 0, none⟩ = some (.slice A0 P.length c0) := (blk_cell hn7 0).trans rfl
    have u1 : V7.cell? ⟨w.heap.size, 1, none⟩ = some (.slice A6 (M.length + 1) c6) := (blk_cell hn7 1).trans rfl
    have u2 : V7.cell? ⟨w.heap.size + 2, 0, none⟩ = some (.slice none 0 0) := (blk_cell hr7 0).trans rfl
    have u3 : V7.cell? ⟨w.heap.size + 2, 1, none⟩ = some (.slice none 0 0) := (blk_cell hr7 1).trans rfl
    have u4 := blk_frozen hr7 0
    have u5 := blk_frozen hr7 1
    clear hN6 hb6 hg6 hat6
    go_wp2_with fail
    have hb8 := below_set (g := w.heap.size + 2) (j := 1) (v := .slice A6 (M.length + 1) c6) (below_set (g := w.heap.size + 2) (j := 0) (v := .slice A0 P.length c0) hb7 (by omega)) (by omega)
    have hN8 := Kd.N_far (Kd.N_far hN7 (p := ⟨w.heap.size + 2, 0, none⟩) (fun k hk => by rcases hk with hk | ⟨_, hk⟩ <;> (dsimp only; have hVs := HVS.out; omega)) (.slice A0 P.length c0)) (p := ⟨w.heap.size + 2, 1, none⟩) (fun k hk => by rcases hk with hk | ⟨_, hk⟩ <;> (dsimp only; have hVs := HVS.out; omega)) (.slice A6 (M.length + 1) c6)
    refine bodyPost_ret (results_cell_row rfl _ _ (w.heap.size + 2) 25 #[.slice A0 P.length c0, .slice A6 (M.length + 1) c6] (0, 0) _ rfl (blk_set (blk_set hr7 0 _) 1 _) Try.underlying25 rfl (by kernel_rfl)) rfl ?_
    obtain ⟨hF8, hl8⟩ := N_net hN8
    exact ⟨A6, c6, by rw [List.length_append, List.length_singleton], ⟨⟨Kd.F_below HH.out.p.1 hb8, HH.out.p.2⟩, Kd.F_mono hF8 (fun k hk => by rcases hk with hk | hk; exact hfr k (by have hVs := HVS.out; omega); exact hk.1), hl8⟩, hb8⟩
end

end Go.Proofs.Ytlaheldjlfckkaa.A

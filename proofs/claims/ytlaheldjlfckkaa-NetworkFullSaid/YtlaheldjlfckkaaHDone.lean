/- done, of the laws of layer 58: the walk. Printed by mkdone.py. -/
import Derived.Test.YtlaheldjlfckkaaHCalls
import Derived.Test.YtlaheldjlfckkaaHTheory
namespace Go.Proofs.Ytlaheldjlfckkaa.A
open Go.RowKit Go.Proofs.YtlaheldjlfckkaaW.PrintWords Go.Proofs.YtlaheldjlfckkaaW.PrintLast Go.Proofs.YtlaheldjlfckkaaW.PrintMore
set_option linter.unusedVariables false
set_option linter.unusedSimpArgs false

def lift3 (r : List Int × List S39 × Int) : List Int × List S39 × Int × Int × List Int × Int := (r.1, r.2.1, 0, 0, [], r.2.2)
def doneP (P : List Int) (M : List S39) (o : S43) : List Int × List S39 × Int × Int × List Int × Int :=
  if o.f0 = 0 then lift3 (sendP P M o.f1 o.f2 o.f3) else if o.f0 = 1 then deliverP P M o.f1 else if o.f0 = 2 then lift3 (loseP P M o.f1) else if o.f0 = 3 then lift3 (copyP P M o.f1) else lift3 (splitP P M o.f4)
def RetDone (w : World) (r : List Int × List S39 × Int × Int × List Int × Int) : Ending → World → Prop := RetMsg w r.1 r.2.1 r.2.2.1 r.2.2.2.1 r.2.2.2.2.1 r.2.2.2.2.2

/-- done's variables: the two results' cells, the two variables. -/
structure Dn (w0 w : World) (x m : Array Value) : Prop where
  r25 : w.heap[w0.heap.size + 1 + 1]? = some (.cells #[.slice none 0 0, .slice none 0 0] 25 (0, 0))
  r39 : w.heap[w0.heap.size + 1 + 1 + 1]? = some (.cells #[.int .i64 0, .int .i64 0, .slice none 0 0] 39 (0, 0))
  vx : w.heap[w0.heap.size + 1 + 1 + 1 + 1]? = some (.cells x 25 (0, 0))
  vm : w.heap[w0.heap.size + 1 + 1 + 1 + 1 + 1]? = some (.cells m 39 (0, 0))
  bel : Below w0.heap.size w0 w
theorem Dn.start (w : World) (a b : Obj) : Dn w ((((((w.alloc a).alloc b).alloc (.cells #[.slice none 0 0, .slice none 0 0] 25)).alloc (.cells #[.int .i64 0, .int .i64 0, .slice none 0 0] 39)).alloc (.cells #[.slice none 0 0, .slice none 0 0] 25)).alloc (.cells #[.int .i64 0, .int .i64 0, .slice none 0 0] 39))
    #[.slice none 0 0, .slice none 0 0] #[.int .i64 0, .int .i64 0, .slice none 0 0] := by
  have e1 : ((w.alloc a).alloc b).heap.size = w.heap.size + 1 + 1 := by simp
  have e2 : (((w.alloc a).alloc b).alloc (.cells #[.slice none 0 0, .slice none 0 0] 25)).heap.size = w.heap.size + 1 + 1 + 1 := by simp
  have e3 : ((((w.alloc a).alloc b).alloc (.cells #[.slice none 0 0, .slice none 0 0] 25)).alloc (.cells #[.int .i64 0, .int .i64 0, .slice none 0 0] 39)).heap.size = w.heap.size + 1 + 1 + 1 + 1 := by simp
  have e4 : (((((w.alloc a).alloc b).alloc (.cells #[.slice none 0 0, .slice none 0 0] 25)).alloc (.cells #[.int .i64 0, .int .i64 0, .slice none 0 0] 39)).alloc (.cells #[.slice none 0 0, .slice none 0 0] 25)).heap.size = w.heap.size + 1 + 1 + 1 + 1 + 1 := by simp
  refine ⟨?_, ?_, ?_, ?_, ?_⟩
  · rw [← e1]; exact blk_alloc (blk_alloc (blk_alloc (blk_new _ _) _) _) _
  · rw [← e2]; exact blk_alloc (blk_alloc (blk_new _ _) _) _
  · rw [← e3]; exact blk_alloc (blk_new _ _) _
  · rw [← e4]; exact blk_new _ _
  · exact below_alloc (below_alloc (below_alloc (below_alloc (below_alloc (below_alloc (Below.refl _ _) _) _) _) _) _) _
theorem Dn.step {w0 w w' : World} {x m : Array Value} (h : Dn w0 w x m) (hb : Below w.heap.size w w') : Dn w0 w' x m :=
  ⟨blk_below h.r25 hb, blk_below h.r39 hb, blk_below h.vx hb, blk_below h.vm hb, below_step h.bel hb⟩
theorem Dn.drew {w0 w : World} {x m : Array Value} (h : Dn w0 w x m) : Dn w0 w.drew x m :=
  ⟨blk_drew h.r25, blk_drew h.r39, blk_drew h.vx, blk_drew h.vm, below_drew1 h.bel⟩
theorem Dn.setx {w0 w : World} {m : Array Value} {a b : Value} (h : Dn w0 w #[a, b] m) (u v : Value) : Dn w0 ((w.setCell ⟨w0.heap.size + 1 + 1 + 1 + 1, 0, none⟩ u).setCell ⟨w0.heap.size + 1 + 1 + 1 + 1, 1, none⟩ v) #[u, v] m :=
  ⟨blk_far (blk_far h.r25 (by simp) _) (by simp) _, blk_far (blk_far h.r39 (by simp) _) (by simp) _, blk_set (blk_set h.vx 0 u) 1 v, blk_far (blk_far h.vm (by simp) _) (by simp) _, below_set (below_set h.bel (by omega)) (by omega)⟩
theorem Dn.setm {w0 w : World} {x : Array Value} {a b c : Value} (h : Dn w0 w x #[a, b, c]) (u v z : Value) : Dn w0 (((w.setCell ⟨w0.heap.size + 1 + 1 + 1 + 1 + 1, 0, none⟩ u).setCell ⟨w0.heap.size + 1 + 1 + 1 + 1 + 1, 1, none⟩ v).setCell ⟨w0.heap.size + 1 + 1 + 1 + 1 + 1, 2, none⟩ z) x #[u, v, z] :=
  ⟨blk_far (blk_far (blk_far h.r25 (by simp) _) (by simp) _) (by simp) _, blk_far (blk_far (blk_far h.r39 (by simp) _) (by simp) _) (by simp) _, blk_far (blk_far (blk_far h.vx (by simp) _) (by simp) _) (by simp) _,
    blk_set (blk_set (blk_set h.vm 0 u) 1 v) 2 z, below_set (below_set (below_set h.bel (by omega)) (by omega)) (by omega)⟩

theorem Dn.res {w0 w : World} {x m : Array Value} (h : Dn w0 w x m) (a b c d e : Value) :
    (((((w.setCell ⟨w0.heap.size + 1 + 1, 0, none⟩ a).setCell ⟨w0.heap.size + 1 + 1, 1, none⟩ b).setCell ⟨w0.heap.size + 1 + 1 + 1, 0, none⟩ c).setCell ⟨w0.heap.size + 1 + 1 + 1, 1, none⟩ d).setCell ⟨w0.heap.size + 1 + 1 + 1, 2, none⟩ e).heap[w0.heap.size + 1 + 1]? = some (.cells #[a, b] 25 (0, 0)) ∧
    (((((w.setCell ⟨w0.heap.size + 1 + 1, 0, none⟩ a).setCell ⟨w0.heap.size + 1 + 1, 1, none⟩ b).setCell ⟨w0.heap.size + 1 + 1 + 1, 0, none⟩ c).setCell ⟨w0.heap.size + 1 + 1 + 1, 1, none⟩ d).setCell ⟨w0.heap.size + 1 + 1 + 1, 2, none⟩ e).heap[w0.heap.size + 1 + 1 + 1]? = some (.cells #[c, d, e] 39 (0, 0)) ∧
    Below w0.heap.size w0 (((((w.setCell ⟨w0.heap.size + 1 + 1, 0, none⟩ a).setCell ⟨w0.heap.size + 1 + 1, 1, none⟩ b).setCell ⟨w0.heap.size + 1 + 1 + 1, 0, none⟩ c).setCell ⟨w0.heap.size + 1 + 1 + 1, 1, none⟩ d).setCell ⟨w0.heap.size + 1 + 1 + 1, 2, none⟩ e) :=
  ⟨blk_far (blk_far (blk_far (blk_set (blk_set h.r25 0 a) 1 b) (by simp) _) (by simp) _) (by simp) _, blk_set (blk_set (blk_set (blk_far (blk_far h.r39 (by simp) _) (by simp) _) 0 c) 1 d) 2 e,
    below_set (below_set (below_set (below_set (below_set h.bel (by omega)) (by omega)) (by omega)) (by omega)) (by omega)⟩
theorem R_under {α : Type} {d : Kd α} {e : Nat} {w : World} {base : Nat} {v : Value} {xs : List α} (h : Kd.R d e w base (fun _ => True) v xs) {p : Addr} (hp : p.block < base) (u : Value) : Kd.R d e (w.setCell p u) base (fun _ => True) v xs :=
  Kd.R_mono (Kd.R_far (Kd.R_mono (Kd.R_bound h) (ok' := fun k => base ≤ k) (fun k hk => hk.2.1)) (p := p) (fun k hk => by omega) u) (fun _ _ => trivial)
theorem NR.under {w : World} {b : Nat} {A0 A1 : Option Addr} {c0 c1 : Nat} {P : List Int} {M : List S39} (h : NR w b A0 c0 P A1 c1 M) {p : Addr} (hp : p.block < b) (u : Value) : NR (w.setCell p u) b A0 c0 P A1 c1 M :=
  ⟨R_under h.parts hp u, R_under h.mail hp u⟩

set_option maxHeartbeats 6400000 in
set_option maxRecDepth 100000 in
theorem done_callsC {w : World} {A0 A1 A2 A3 : Option Addr} {c0 c1 c2 c3 : Nat} {P : List Int} {M : List S39} (o : S43) (HN : NC w A0 c0 P A1 c1 M) (hS : Small P M) (hB : o.f3.length ≤ 1000000)
    (hr2 : Kd.C (Kd.int .u8) w A2 o.f3.length o.f3) (hc2 : o.f3.length ≤ c2) (hr3 : Kd.C (Kd.int .i64) w A3 o.f4.length o.f4) (hc3 : o.f4.length ≤ c3) :
    Calls Try.prog 17 #[.agg #[.slice A0 P.length c0, .slice A1 M.length c1], .agg #[.int .i64 o.f0, .int .i64 o.f1, .int .i64 o.f2, .slice A2 o.f3.length c2, .slice A3 o.f4.length c3]] w (RetDone w (doneP P M o)) := by
  by_cases h0 : o.f0 = 0
  · have hd : doneP P M o = lift3 (sendP P M o.f1 o.f2 o.f3) := by unfold doneP; rw [if_pos h0]
    have hf := send_f hS o.f1 o.f2 o.f3 hB 1001 (by omega)
    rw [hd]
    clear hd
    generalize sendP P M o.f1 o.f2 o.f3 = r at hf ⊢
    obtain ⟨P', M', e'⟩ := r
    show Calls _ _ _ _ (RetMsg w P' M' 0 0 [] e')
    have q0 : (o.f0 == 0) = true := by simpa using h0
    go_enter Try.func17, Try.ntmps17
    go_wp2_with fail
    refine (c_sendC (HN.below (Dn.start w _ _).bel) o.f1 o.f2 o.f3 (Kd.C_below hr2 (Dn.start w _ _).bel) hc2 hf).mono ?_
    rintro e w1 ⟨B0, d0, B1, d1, rfl, hN, hb⟩
    have D := (Dn.start w _ _).step hb
    replace hN := hN.lower (b' := w.heap.size + 1 + 1 + 1 + 1 + 1 + 1) (by simp)
    have yvx0 : w1.cell? ⟨w.heap.size + 1 + 1 + 1 + 1, 0, none⟩ = _ := (blk_cell D.vx 0).trans rfl
    have yvx1 : w1.cell? ⟨w.heap.size + 1 + 1 + 1 + 1, 1, none⟩ = _ := (blk_cell D.vx 1).trans rfl
    have zvx0 := blk_frozen D.vx 0
    have zvx1 := blk_frozen D.vx 1
    have E := D.setx (.slice B0 P'.length d0) (.slice B1 M'.length d1)
    have N := hN
    replace N := N.under (p := ⟨w.heap.size + 1 + 1 + 1 + 1, 0, none⟩) (by simp) (.slice B0 P'.length d0)
    replace N := N.under (p := ⟨w.heap.size + 1 + 1 + 1 + 1, 1, none⟩) (by simp) (.slice B1 M'.length d1)
    clear D hb hN
    go_wp2_with fail
    clear yvx0 yvx1 zvx0 zvx1
    generalize ((w1.setCell ⟨w.heap.size + 1 + 1 + 1 + 1, 0, none⟩ (.slice B0 P'.length d0)).setCell ⟨w.heap.size + 1 + 1 + 1 + 1, 1, none⟩ (.slice B1 M'.length d1)) = V at E N ⊢
    have hM : Kd.R (Kd.int .u8) 5 V (w.heap.size + 1 + 1 + 1 + 1 + 1 + 1) (fun _ => True) (.slice none 0 0) ([] : List Int) := Kd.R_nil _ _ _ _ _
    replace E := E.drew
    replace N := N.below (below_drew1 (Below.refl _ _))
    replace hM := Kd.R_drew hM
    refine start_ (n := 6) (S := fun w' => w'.cell? ⟨w.heap.size + 1 + 1 + 1 + 1, 0, none⟩ = some (.slice B0 P'.length d0) ∧ w'.cell? ⟨w.heap.size + 1 + 1 + 1 + 1, 1, none⟩ = some (.slice B1 M'.length d1) ∧ w'.cell? ⟨w.heap.size + 1 + 1 + 1 + 1 + 1, 0, none⟩ = some (.int .i64 0) ∧ w'.cell? ⟨w.heap.size + 1 + 1 + 1 + 1 + 1, 1, none⟩ = some (.int .i64 0) ∧ w'.cell? ⟨w.heap.size + 1 + 1 + 1 + 1 + 1, 2, none⟩ = some (.slice none 0 0)) (ds := []) #[false, false, false, false, false, false] (by kernel_rfl) rfl rfl ⟨(blk_cell E.vx 0).trans rfl, (blk_cell E.vx 1).trans rfl, (blk_cell E.vm 0).trans rfl, (blk_cell E.vm 1).trans rfl, (blk_cell E.vm 2).trans rfl⟩ (fun hHeld => ?_)
    generalize V.drew = w34 at E N hM hHeld ⊢
    refine pure_ (i := 2) (N := some 64) (v := ?_) (a' := ?_) #[false, false, true, false, false, false] rfl rfl (by kernel_rfl) (fun _ _ _ h => h) (Or.inl ⟨by rfl, ?_⟩) ?_ ?_
    rotate_left
    · intro w'
      go_simp
      with_reducible rfl
    rotate_left
    · simp only [Act.put, sA, sZ, sS, i64_w, i32_w]
      rfl
    refine take_ (i := 0) (N := some 62) (v := ?_) (a' := ?_) #[true, false, true, false, false, false] rfl rfl (by kernel_rfl) (fun _ _ _ h => h) (Or.inl ⟨by rfl, ?_⟩) hHeld ?_ ?_
    rotate_left
    · rintro w' ⟨s0, s1, s2, s3, s4⟩
      go_simp
      with_reducible rfl
    rotate_left
    · simp only [Act.put, sA, sZ, sS, i64_w, i32_w]
      rfl
    refine take_ (i := 1) (N := some 63) (v := ?_) (a' := ?_) #[true, true, true, false, false, false] rfl rfl (by kernel_rfl) (fun _ _ _ h => h) (Or.inl ⟨by rfl, ?_⟩) hHeld ?_ ?_
    rotate_left
    · rintro w' ⟨s0, s1, s2, s3, s4⟩
      go_simp
      with_reducible rfl
    rotate_left
    · simp only [Act.put, sA, sZ, sS, i64_w, i32_w]
      rfl
    refine one_ (i := 3) (N := none) #[true, true, true, true, false, false] rfl rfl (by kernel_rfl) (by decide) (fun K hK => ?_)
    have s0 : w34.cell? ⟨w.heap.size + 1 + 1, 0, none⟩ = _ := (blk_cell E.r25 0).trans rfl
    have t0 := blk_frozen E.r25 0
    have s1 : w34.cell? ⟨w.heap.size + 1 + 1, 1, none⟩ = _ := (blk_cell E.r25 1).trans rfl
    have t1 := blk_frozen E.r25 1
    refine skip_ (w1 := ?_) (by rfl) rfl ?_ ?_
    rotate_left
    · go_simp
      rfl
    refine hK.out _ _ ⟨((cell_far (by dsimp only; omega) _).trans ((cell_far (by dsimp only; omega) _).trans hHeld.1)), ((cell_far (by dsimp only; omega) _).trans ((cell_far (by dsimp only; omega) _).trans hHeld.2.1)), ((cell_far (by dsimp only; omega) _).trans ((cell_far (by dsimp only; omega) _).trans hHeld.2.2.1)), ((cell_far (by dsimp only; omega) _).trans ((cell_far (by dsimp only; omega) _).trans hHeld.2.2.2.1)), ((cell_far (by dsimp only; omega) _).trans ((cell_far (by dsimp only; omega) _).trans hHeld.2.2.2.2))⟩ (fun hHeld => ?_)
    clear hK K
    refine one_ (i := 4) (N := none) #[true, true, true, true, true, false] rfl rfl (by kernel_rfl) (by decide) (fun K hK => ?_)
    have s2 : w34.cell? ⟨w.heap.size + 1 + 1 + 1, 0, none⟩ = _ := (blk_cell E.r39 0).trans rfl
    have t2 := blk_frozen E.r39 0
    have s3 : w34.cell? ⟨w.heap.size + 1 + 1 + 1, 1, none⟩ = _ := (blk_cell E.r39 1).trans rfl
    have t3 := blk_frozen E.r39 1
    have s4 : w34.cell? ⟨w.heap.size + 1 + 1 + 1, 2, none⟩ = _ := (blk_cell E.r39 2).trans rfl
    have t4 := blk_frozen E.r39 2
    refine skip_ (w1 := ?_) (by rfl) rfl ?_ ?_
    rotate_left
    · go_simp
      rfl
    refine hK.out _ _ ⟨((cell_far (by dsimp only; omega) _).trans ((cell_far (by dsimp only; omega) _).trans ((cell_far (by dsimp only; omega) _).trans hHeld.1))), ((cell_far (by dsimp only; omega) _).trans ((cell_far (by dsimp only; omega) _).trans ((cell_far (by dsimp only; omega) _).trans hHeld.2.1))), ((cell_far (by dsimp only; omega) _).trans ((cell_far (by dsimp only; omega) _).trans ((cell_far (by dsimp only; omega) _).trans hHeld.2.2.1))), ((cell_far (by dsimp only; omega) _).trans ((cell_far (by dsimp only; omega) _).trans ((cell_far (by dsimp only; omega) _).trans hHeld.2.2.2.1))), ((cell_far (by dsimp only; omega) _).trans ((cell_far (by dsimp only; omega) _).trans ((cell_far (by dsimp only; omega) _).trans hHeld.2.2.2.2)))⟩ (fun hHeld => ?_)
    clear hK K
    refine pure_ (i := 5) (N := some 6) (v := ?_) (a' := ?_) #[true, true, true, true, true, true] rfl rfl (by kernel_rfl) (fun _ _ _ h => h) (Or.inl ⟨by rfl, ?_⟩) ?_ ?_
    rotate_left
    · intro w'
      go_simp
      with_reducible rfl
    rotate_left
    · simp only [Act.put, sA, sZ, sS, i64_w, i32_w]
      rfl
    refine done_ (by kernel_rfl) ?_
    try go_wp2
    have E2 := E.res (.slice B0 P'.length d0) (.slice B1 M'.length d1) (.int .i64 0) (.int .i64 0) (.slice none 0 0)
    refine bodyPost_ret (results_list (rs := [.cell 4 25, .cell 5 39, .tmp 6]) rfl (by simp) (.cell (w.heap.size + 1 + 1) 25 #[.slice B0 P'.length d0, .slice B1 M'.length d1] (0, 0) _ rfl E2.1 Try.underlying25 rfl (by kernel_rfl) (.cell (w.heap.size + 1 + 1 + 1) 39 #[.int .i64 0, .int .i64 0, (.slice none 0 0)] (0, 0) _ rfl E2.2.1 Try.underlying39 rfl (by kernel_rfl) (.tmp .nil)))) rfl ?_
    replace N := N.under (p := ⟨w.heap.size + 1 + 1, 0, none⟩) (by simp) (.slice B0 P'.length d0)
    replace hM := R_under hM (p := ⟨w.heap.size + 1 + 1, 0, none⟩) (by simp) (.slice B0 P'.length d0)
    replace N := N.under (p := ⟨w.heap.size + 1 + 1, 1, none⟩) (by simp) (.slice B1 M'.length d1)
    replace hM := R_under hM (p := ⟨w.heap.size + 1 + 1, 1, none⟩) (by simp) (.slice B1 M'.length d1)
    replace N := N.under (p := ⟨w.heap.size + 1 + 1 + 1, 0, none⟩) (by simp) (.int .i64 0)
    replace hM := R_under hM (p := ⟨w.heap.size + 1 + 1 + 1, 0, none⟩) (by simp) (.int .i64 0)
    replace N := N.under (p := ⟨w.heap.size + 1 + 1 + 1, 1, none⟩) (by simp) (.int .i64 0)
    replace hM := R_under hM (p := ⟨w.heap.size + 1 + 1 + 1, 1, none⟩) (by simp) (.int .i64 0)
    replace N := N.under (p := ⟨w.heap.size + 1 + 1 + 1, 2, none⟩) (by simp) (.slice none 0 0)
    replace hM := R_under hM (p := ⟨w.heap.size + 1 + 1 + 1, 2, none⟩) (by simp) (.slice none 0 0)
    exact ⟨B0, d0, B1, d1, none, 0, rfl, N.lower (by omega), Kd.R_lower hM (by omega), E2.2.2⟩
  · skip
    by_cases h1 : o.f0 = 1
    · have hd : doneP P M o = deliverP P M o.f1 := by unfold doneP; rw [if_neg h0]; rw [if_pos h1]
      have hf := deliver_f hS o.f1 1001 (by omega)
      rw [hd]
      clear hd
      generalize deliverP P M o.f1 = r at hf ⊢
      obtain ⟨P', M', f', t', b', e'⟩ := r
      show Calls _ _ _ _ (RetMsg w P' M' f' t' b' e')
      have q0 : (o.f0 == 0) = false := by simpa using h0
      have q1 : (o.f0 == 1) = true := by simpa using h1
      go_enter Try.func17, Try.ntmps17
      go_wp2_with fail
      refine (c_deliverC (HN.below (Dn.start w _ _).bel) o.f1 hf).mono ?_
      rintro e w1 ⟨B0, d0, B1, d1, B2, d2, rfl, hN, hM, hb⟩
      have D := (Dn.start w _ _).step hb
      replace hN := hN.lower (b' := w.heap.size + 1 + 1 + 1 + 1 + 1 + 1) (by simp)
      replace hM := Kd.R_lower hM (base' := w.heap.size + 1 + 1 + 1 + 1 + 1 + 1) (by simp)
      have yvx0 : w1.cell? ⟨w.heap.size + 1 + 1 + 1 + 1, 0, none⟩ = _ := (blk_cell D.vx 0).trans rfl
      have yvx1 : w1.cell? ⟨w.heap.size + 1 + 1 + 1 + 1, 1, none⟩ = _ := (blk_cell D.vx 1).trans rfl
      have zvx0 := blk_frozen D.vx 0
      have zvx1 := blk_frozen D.vx 1
      have yvm0 : w1.cell? ⟨w.heap.size + 1 + 1 + 1 + 1 + 1, 0, none⟩ = _ := (blk_cell D.vm 0).trans rfl
      have yvm1 : w1.cell? ⟨w.heap.size + 1 + 1 + 1 + 1 + 1, 1, none⟩ = _ := (blk_cell D.vm 1).trans rfl
      have yvm2 : w1.cell? ⟨w.heap.size + 1 + 1 + 1 + 1 + 1, 2, none⟩ = _ := (blk_cell D.vm 2).trans rfl
      have zvm0 := blk_frozen D.vm 0
      have zvm1 := blk_frozen D.vm 1
      have zvm2 := blk_frozen D.vm 2
      have E := (D.setx (.slice B0 P'.length d0) (.slice B1 M'.length d1)).setm (.int .i64 f') (.int .i64 t') (.slice B2 b'.length d2)
      have N := hN
      replace N := N.under (p := ⟨w.heap.size + 1 + 1 + 1 + 1, 0, none⟩) (by simp) (.slice B0 P'.length d0)
      replace N := N.under (p := ⟨w.heap.size + 1 + 1 + 1 + 1, 1, none⟩) (by simp) (.slice B1 M'.length d1)
      replace N := N.under (p := ⟨w.heap.size + 1 + 1 + 1 + 1 + 1, 0, none⟩) (by simp) (.int .i64 f')
      replace N := N.under (p := ⟨w.heap.size + 1 + 1 + 1 + 1 + 1, 1, none⟩) (by simp) (.int .i64 t')
      replace N := N.under (p := ⟨w.heap.size + 1 + 1 + 1 + 1 + 1, 2, none⟩) (by simp) (.slice B2 b'.length d2)
      replace hM := R_under hM (p := ⟨w.heap.size + 1 + 1 + 1 + 1, 0, none⟩) (by simp) (.slice B0 P'.length d0)
      replace hM := R_under hM (p := ⟨w.heap.size + 1 + 1 + 1 + 1, 1, none⟩) (by simp) (.slice B1 M'.length d1)
      replace hM := R_under hM (p := ⟨w.heap.size + 1 + 1 + 1 + 1 + 1, 0, none⟩) (by simp) (.int .i64 f')
      replace hM := R_under hM (p := ⟨w.heap.size + 1 + 1 + 1 + 1 + 1, 1, none⟩) (by simp) (.int .i64 t')
      replace hM := R_under hM (p := ⟨w.heap.size + 1 + 1 + 1 + 1 + 1, 2, none⟩) (by simp) (.slice B2 b'.length d2)
      clear D hb hN
      go_wp2_with fail
      clear yvx0 yvx1 zvx0 zvx1 yvm0 yvm1 yvm2 zvm0 zvm1 zvm2
      generalize (((((w1.setCell ⟨w.heap.size + 1 + 1 + 1 + 1, 0, none⟩ (.slice B0 P'.length d0)).setCell ⟨w.heap.size + 1 + 1 + 1 + 1, 1, none⟩ (.slice B1 M'.length d1)).setCell ⟨w.heap.size + 1 + 1 + 1 + 1 + 1, 0, none⟩ (.int .i64 f')).setCell ⟨w.heap.size + 1 + 1 + 1 + 1 + 1, 1, none⟩ (.int .i64 t')).setCell ⟨w.heap.size + 1 + 1 + 1 + 1 + 1, 2, none⟩ (.slice B2 b'.length d2)) = V at E N hM ⊢
      replace E := E.drew
      replace N := N.below (below_drew1 (Below.refl _ _))
      replace hM := Kd.R_drew hM
      refine start_ (n := 6) (S := fun w' => w'.cell? ⟨w.heap.size + 1 + 1 + 1 + 1, 0, none⟩ = some (.slice B0 P'.length d0) ∧ w'.cell? ⟨w.heap.size + 1 + 1 + 1 + 1, 1, none⟩ = some (.slice B1 M'.length d1) ∧ w'.cell? ⟨w.heap.size + 1 + 1 + 1 + 1 + 1, 0, none⟩ = some (.int .i64 f') ∧ w'.cell? ⟨w.heap.size + 1 + 1 + 1 + 1 + 1, 1, none⟩ = some (.int .i64 t') ∧ w'.cell? ⟨w.heap.size + 1 + 1 + 1 + 1 + 1, 2, none⟩ = some (.slice B2 b'.length d2)) (ds := []) #[false, false, false, false, false, false] (by kernel_rfl) rfl rfl ⟨(blk_cell E.vx 0).trans rfl, (blk_cell E.vx 1).trans rfl, (blk_cell E.vm 0).trans rfl, (blk_cell E.vm 1).trans rfl, (blk_cell E.vm 2).trans rfl⟩ (fun hHeld => ?_)
      generalize V.drew = w34 at E N hM hHeld ⊢
      refine pure_ (i := 2) (N := some 64) (v := ?_) (a' := ?_) #[false, false, true, false, false, false] rfl rfl (by kernel_rfl) (fun _ _ _ h => h) (Or.inl ⟨by rfl, ?_⟩) ?_ ?_
      rotate_left
      · intro w'
        go_simp
        with_reducible rfl
      rotate_left
      · simp only [Act.put, sA, sZ, sS, i64_w, i32_w]
        rfl
      refine take_ (i := 0) (N := some 62) (v := ?_) (a' := ?_) #[true, false, true, false, false, false] rfl rfl (by kernel_rfl) (fun _ _ _ h => h) (Or.inl ⟨by rfl, ?_⟩) hHeld ?_ ?_
      rotate_left
      · rintro w' ⟨s0, s1, s2, s3, s4⟩
        go_simp
        with_reducible rfl
      rotate_left
      · simp only [Act.put, sA, sZ, sS, i64_w, i32_w]
        rfl
      refine take_ (i := 1) (N := some 63) (v := ?_) (a' := ?_) #[true, true, true, false, false, false] rfl rfl (by kernel_rfl) (fun _ _ _ h => h) (Or.inl ⟨by rfl, ?_⟩) hHeld ?_ ?_
      rotate_left
      · rintro w' ⟨s0, s1, s2, s3, s4⟩
        go_simp
        with_reducible rfl
      rotate_left
      · simp only [Act.put, sA, sZ, sS, i64_w, i32_w]
        rfl
      refine one_ (i := 3) (N := none) #[true, true, true, true, false, false] rfl rfl (by kernel_rfl) (by decide) (fun K hK => ?_)
      have s0 : w34.cell? ⟨w.heap.size + 1 + 1, 0, none⟩ = _ := (blk_cell E.r25 0).trans rfl
      have t0 := blk_frozen E.r25 0
      have s1 : w34.cell? ⟨w.heap.size + 1 + 1, 1, none⟩ = _ := (blk_cell E.r25 1).trans rfl
      have t1 := blk_frozen E.r25 1
      refine skip_ (w1 := ?_) (by rfl) rfl ?_ ?_
      rotate_left
      · go_simp
        rfl
      refine hK.out _ _ ⟨((cell_far (by dsimp only; omega) _).trans ((cell_far (by dsimp only; omega) _).trans hHeld.1)), ((cell_far (by dsimp only; omega) _).trans ((cell_far (by dsimp only; omega) _).trans hHeld.2.1)), ((cell_far (by dsimp only; omega) _).trans ((cell_far (by dsimp only; omega) _).trans hHeld.2.2.1)), ((cell_far (by dsimp only; omega) _).trans ((cell_far (by dsimp only; omega) _).trans hHeld.2.2.2.1)), ((cell_far (by dsimp only; omega) _).trans ((cell_far (by dsimp only; omega) _).trans hHeld.2.2.2.2))⟩ (fun hHeld => ?_)
      clear hK K
      refine one_ (i := 4) (N := none) #[true, true, true, true, true, false] rfl rfl (by kernel_rfl) (by decide) (fun K hK => ?_)
      have s2 : w34.cell? ⟨w.heap.size + 1 + 1 + 1, 0, none⟩ = _ := (blk_cell E.r39 0).trans rfl
      have t2 := blk_frozen E.r39 0
      have s3 : w34.cell? ⟨w.heap.size + 1 + 1 + 1, 1, none⟩ = _ := (blk_cell E.r39 1).trans rfl
      have t3 := blk_frozen E.r39 1
      have s4 : w34.cell? ⟨w.heap.size + 1 + 1 + 1, 2, none⟩ = _ := (blk_cell E.r39 2).trans rfl
      have t4 := blk_frozen E.r39 2
      refine skip_ (w1 := ?_) (by rfl) rfl ?_ ?_
      rotate_left
      · go_simp
        rfl
      refine hK.out _ _ ⟨((cell_far (by dsimp only; omega) _).trans ((cell_far (by dsimp only; omega) _).trans ((cell_far (by dsimp only; omega) _).trans hHeld.1))), ((cell_far (by dsimp only; omega) _).trans ((cell_far (by dsimp only; omega) _).trans ((cell_far (by dsimp only; omega) _).trans hHeld.2.1))), ((cell_far (by dsimp only; omega) _).trans ((cell_far (by dsimp only; omega) _).trans ((cell_far (by dsimp only; omega) _).trans hHeld.2.2.1))), ((cell_far (by dsimp only; omega) _).trans ((cell_far (by dsimp only; omega) _).trans ((cell_far (by dsimp only; omega) _).trans hHeld.2.2.2.1))), ((cell_far (by dsimp only; omega) _).trans ((cell_far (by dsimp only; omega) _).trans ((cell_far (by dsimp only; omega) _).trans hHeld.2.2.2.2)))⟩ (fun hHeld => ?_)
      clear hK K
      refine pure_ (i := 5) (N := some 6) (v := ?_) (a' := ?_) #[true, true, true, true, true, true] rfl rfl (by kernel_rfl) (fun _ _ _ h => h) (Or.inl ⟨by rfl, ?_⟩) ?_ ?_
      rotate_left
      · intro w'
        go_simp
        with_reducible rfl
      rotate_left
      · simp only [Act.put, sA, sZ, sS, i64_w, i32_w]
        rfl
      refine done_ (by kernel_rfl) ?_
      try go_wp2
      have E2 := E.res (.slice B0 P'.length d0) (.slice B1 M'.length d1) (.int .i64 f') (.int .i64 t') (.slice B2 b'.length d2)
      refine bodyPost_ret (results_list (rs := [.cell 4 25, .cell 5 39, .tmp 6]) rfl (by simp) (.cell (w.heap.size + 1 + 1) 25 #[.slice B0 P'.length d0, .slice B1 M'.length d1] (0, 0) _ rfl E2.1 Try.underlying25 rfl (by kernel_rfl) (.cell (w.heap.size + 1 + 1 + 1) 39 #[.int .i64 f', .int .i64 t', (.slice B2 b'.length d2)] (0, 0) _ rfl E2.2.1 Try.underlying39 rfl (by kernel_rfl) (.tmp .nil)))) rfl ?_
      replace N := N.under (p := ⟨w.heap.size + 1 + 1, 0, none⟩) (by simp) (.slice B0 P'.length d0)
      replace hM := R_under hM (p := ⟨w.heap.size + 1 + 1, 0, none⟩) (by simp) (.slice B0 P'.length d0)
      replace N := N.under (p := ⟨w.heap.size + 1 + 1, 1, none⟩) (by simp) (.slice B1 M'.length d1)
      replace hM := R_under hM (p := ⟨w.heap.size + 1 + 1, 1, none⟩) (by simp) (.slice B1 M'.length d1)
      replace N := N.under (p := ⟨w.heap.size + 1 + 1 + 1, 0, none⟩) (by simp) (.int .i64 f')
      replace hM := R_under hM (p := ⟨w.heap.size + 1 + 1 + 1, 0, none⟩) (by simp) (.int .i64 f')
      replace N := N.under (p := ⟨w.heap.size + 1 + 1 + 1, 1, none⟩) (by simp) (.int .i64 t')
      replace hM := R_under hM (p := ⟨w.heap.size + 1 + 1 + 1, 1, none⟩) (by simp) (.int .i64 t')
      replace N := N.under (p := ⟨w.heap.size + 1 + 1 + 1, 2, none⟩) (by simp) (.slice B2 b'.length d2)
      replace hM := R_under hM (p := ⟨w.heap.size + 1 + 1 + 1, 2, none⟩) (by simp) (.slice B2 b'.length d2)
      exact ⟨B0, d0, B1, d1, B2, d2, rfl, N.lower (by omega), Kd.R_lower hM (by omega), E2.2.2⟩
    · skip
      by_cases h2 : o.f0 = 2
      · have hd : doneP P M o = lift3 (loseP P M o.f1) := by unfold doneP; rw [if_neg h0]; rw [if_neg h1]; rw [if_pos h2]
        have hf := lose_f hS o.f1 1001 (by omega)
        rw [hd]
        clear hd
        generalize loseP P M o.f1 = r at hf ⊢
        obtain ⟨P', M', e'⟩ := r
        show Calls _ _ _ _ (RetMsg w P' M' 0 0 [] e')
        have q0 : (o.f0 == 0) = false := by simpa using h0
        have q1 : (o.f0 == 1) = false := by simpa using h1
        have q2 : (o.f0 == 2) = true := by simpa using h2
        go_enter Try.func17, Try.ntmps17
        go_wp2_with fail
        refine (c_loseC (HN.below (Dn.start w _ _).bel) o.f1 hf).mono ?_
        rintro e w1 ⟨B0, d0, B1, d1, rfl, hN, hb⟩
        have D := (Dn.start w _ _).step hb
        replace hN := hN.lower (b' := w.heap.size + 1 + 1 + 1 + 1 + 1 + 1) (by simp)
        have yvx0 : w1.cell? ⟨w.heap.size + 1 + 1 + 1 + 1, 0, none⟩ = _ := (blk_cell D.vx 0).trans rfl
        have yvx1 : w1.cell? ⟨w.heap.size + 1 + 1 + 1 + 1, 1, none⟩ = _ := (blk_cell D.vx 1).trans rfl
        have zvx0 := blk_frozen D.vx 0
        have zvx1 := blk_frozen D.vx 1
        have E := D.setx (.slice B0 P'.length d0) (.slice B1 M'.length d1)
        have N := hN
        replace N := N.under (p := ⟨w.heap.size + 1 + 1 + 1 + 1, 0, none⟩) (by simp) (.slice B0 P'.length d0)
        replace N := N.under (p := ⟨w.heap.size + 1 + 1 + 1 + 1, 1, none⟩) (by simp) (.slice B1 M'.length d1)
        clear D hb hN
        go_wp2_with fail
        clear yvx0 yvx1 zvx0 zvx1
        generalize ((w1.setCell ⟨w.heap.size + 1 + 1 + 1 + 1, 0, none⟩ (.slice B0 P'.length d0)).setCell ⟨w.heap.size + 1 + 1 + 1 + 1, 1, none⟩ (.slice B1 M'.length d1)) = V at E N ⊢
        have hM : Kd.R (Kd.int .u8) 5 V (w.heap.size + 1 + 1 + 1 + 1 + 1 + 1) (fun _ => True) (.slice none 0 0) ([] : List Int) := Kd.R_nil _ _ _ _ _
        replace E := E.drew
        replace N := N.below (below_drew1 (Below.refl _ _))
        replace hM := Kd.R_drew hM
        refine start_ (n := 6) (S := fun w' => w'.cell? ⟨w.heap.size + 1 + 1 + 1 + 1, 0, none⟩ = some (.slice B0 P'.length d0) ∧ w'.cell? ⟨w.heap.size + 1 + 1 + 1 + 1, 1, none⟩ = some (.slice B1 M'.length d1) ∧ w'.cell? ⟨w.heap.size + 1 + 1 + 1 + 1 + 1, 0, none⟩ = some (.int .i64 0) ∧ w'.cell? ⟨w.heap.size + 1 + 1 + 1 + 1 + 1, 1, none⟩ = some (.int .i64 0) ∧ w'.cell? ⟨w.heap.size + 1 + 1 + 1 + 1 + 1, 2, none⟩ = some (.slice none 0 0)) (ds := []) #[false, false, false, false, false, false] (by kernel_rfl) rfl rfl ⟨(blk_cell E.vx 0).trans rfl, (blk_cell E.vx 1).trans rfl, (blk_cell E.vm 0).trans rfl, (blk_cell E.vm 1).trans rfl, (blk_cell E.vm 2).trans rfl⟩ (fun hHeld => ?_)
        generalize V.drew = w34 at E N hM hHeld ⊢
        refine pure_ (i := 2) (N := some 64) (v := ?_) (a' := ?_) #[false, false, true, false, false, false] rfl rfl (by kernel_rfl) (fun _ _ _ h => h) (Or.inl ⟨by rfl, ?_⟩) ?_ ?_
        rotate_left
        · intro w'
          go_simp
          with_reducible rfl
        rotate_left
        · simp only [Act.put, sA, sZ, sS, i64_w, i32_w]
          rfl
        refine take_ (i := 0) (N := some 62) (v := ?_) (a' := ?_) #[true, false, true, false, false, false] rfl rfl (by kernel_rfl) (fun _ _ _ h => h) (Or.inl ⟨by rfl, ?_⟩) hHeld ?_ ?_
        rotate_left
        · rintro w' ⟨s0, s1, s2, s3, s4⟩
          go_simp
          with_reducible rfl
        rotate_left
        · simp only [Act.put, sA, sZ, sS, i64_w, i32_w]
          rfl
        refine take_ (i := 1) (N := some 63) (v := ?_) (a' := ?_) #[true, true, true, false, false, false] rfl rfl (by kernel_rfl) (fun _ _ _ h => h) (Or.inl ⟨by rfl, ?_⟩) hHeld ?_ ?_
        rotate_left
        · rintro w' ⟨s0, s1, s2, s3, s4⟩
          go_simp
          with_reducible rfl
        rotate_left
        · simp only [Act.put, sA, sZ, sS, i64_w, i32_w]
          rfl
        refine one_ (i := 3) (N := none) #[true, true, true, true, false, false] rfl rfl (by kernel_rfl) (by decide) (fun K hK => ?_)
        have s0 : w34.cell? ⟨w.heap.size + 1 + 1, 0, none⟩ = _ := (blk_cell E.r25 0).trans rfl
        have t0 := blk_frozen E.r25 0
        have s1 : w34.cell? ⟨w.heap.size + 1 + 1, 1, none⟩ = _ := (blk_cell E.r25 1).trans rfl
        have t1 := blk_frozen E.r25 1
        refine skip_ (w1 := ?_) (by rfl) rfl ?_ ?_
        rotate_left
        · go_simp
          rfl
        refine hK.out _ _ ⟨((cell_far (by dsimp only; omega) _).trans ((cell_far (by dsimp only; omega) _).trans hHeld.1)), ((cell_far (by dsimp only; omega) _).trans ((cell_far (by dsimp only; omega) _).trans hHeld.2.1)), ((cell_far (by dsimp only; omega) _).trans ((cell_far (by dsimp only; omega) _).trans hHeld.2.2.1)), ((cell_far (by dsimp only; omega) _).trans ((cell_far (by dsimp only; omega) _).trans hHeld.2.2.2.1)), ((cell_far (by dsimp only; omega) _).trans ((cell_far (by dsimp only; omega) _).trans hHeld.2.2.2.2))⟩ (fun hHeld => ?_)
        clear hK K
        refine one_ (i := 4) (N := none) #[true, true, true, true, true, false] rfl rfl (by kernel_rfl) (by decide) (fun K hK => ?_)
        have s2 : w34.cell? ⟨w.heap.size + 1 + 1 + 1, 0, none⟩ = _ := (blk_cell E.r39 0).trans rfl
        have t2 := blk_frozen E.r39 0
        have s3 : w34.cell? ⟨w.heap.size + 1 + 1 + 1, 1, none⟩ = _ := (blk_cell E.r39 1).trans rfl
        have t3 := blk_frozen E.r39 1
        have s4 : w34.cell? ⟨w.heap.size + 1 + 1 + 1, 2, none⟩ = _ := (blk_cell E.r39 2).trans rfl
        have t4 := blk_frozen E.r39 2
        refine skip_ (w1 := ?_) (by rfl) rfl ?_ ?_
        rotate_left
        · go_simp
          rfl
        refine hK.out _ _ ⟨((cell_far (by dsimp only; omega) _).trans ((cell_far (by dsimp only; omega) _).trans ((cell_far (by dsimp only; omega) _).trans hHeld.1))), ((cell_far (by dsimp only; omega) _).trans ((cell_far (by dsimp only; omega) _).trans ((cell_far (by dsimp only; omega) _).trans hHeld.2.1))), ((cell_far (by dsimp only; omega) _).trans ((cell_far (by dsimp only; omega) _).trans ((cell_far (by dsimp only; omega) _).trans hHeld.2.2.1))), ((cell_far (by dsimp only; omega) _).trans ((cell_far (by dsimp only; omega) _).trans ((cell_far (by dsimp only; omega) _).trans hHeld.2.2.2.1))), ((cell_far (by dsimp only; omega) _).trans ((cell_far (by dsimp only; omega) _).trans ((cell_far (by dsimp only; omega) _).trans hHeld.2.2.2.2)))⟩ (fun hHeld => ?_)
        clear hK K
        refine pure_ (i := 5) (N := some 6) (v := ?_) (a' := ?_) #[true, true, true, true, true, true] rfl rfl (by kernel_rfl) (fun _ _ _ h => h) (Or.inl ⟨by rfl, ?_⟩) ?_ ?_
        rotate_left
        · intro w'
          go_simp
          with_reducible rfl
        rotate_left
        · simp only [Act.put, sA, sZ, sS, i64_w, i32_w]
          rfl
        refine done_ (by kernel_rfl) ?_
        try go_wp2
        have E2 := E.res (.slice B0 P'.length d0) (.slice B1 M'.length d1) (.int .i64 0) (.int .i64 0) (.slice none 0 0)
        refine bodyPost_ret (results_list (rs := [.cell 4 25, .cell 5 39, .tmp 6]) rfl (by simp) (.cell (w.heap.size + 1 + 1) 25 #[.slice B0 P'.length d0, .slice B1 M'.length d1] (0, 0) _ rfl E2.1 Try.underlying25 rfl (by kernel_rfl) (.cell (w.heap.size + 1 + 1 + 1) 39 #[.int .i64 0, .int .i64 0, (.slice none 0 0)] (0, 0) _ rfl E2.2.1 Try.underlying39 rfl (by kernel_rfl) (.tmp .nil)))) rfl ?_
        replace N := N.under (p := ⟨w.heap.size + 1 + 1, 0, none⟩) (by simp) (.slice B0 P'.length d0)
        replace hM := R_under hM (p := ⟨w.heap.size + 1 + 1, 0, none⟩) (by simp) (.slice B0 P'.length d0)
        replace N := N.under (p := ⟨w.heap.size + 1 + 1, 1, none⟩) (by simp) (.slice B1 M'.length d1)
        replace hM := R_under hM (p := ⟨w.heap.size + 1 + 1, 1, none⟩) (by simp) (.slice B1 M'.length d1)
        replace N := N.under (p := ⟨w.heap.size + 1 + 1 + 1, 0, none⟩) (by simp) (.int .i64 0)
        replace hM := R_under hM (p := ⟨w.heap.size + 1 + 1 + 1, 0, none⟩) (by simp) (.int .i64 0)
        replace N := N.under (p := ⟨w.heap.size + 1 + 1 + 1, 1, none⟩) (by simp) (.int .i64 0)
        replace hM := R_under hM (p := ⟨w.heap.size + 1 + 1 + 1, 1, none⟩) (by simp) (.int .i64 0)
        replace N := N.under (p := ⟨w.heap.size + 1 + 1 + 1, 2, none⟩) (by simp) (.slice none 0 0)
        replace hM := R_under hM (p := ⟨w.heap.size + 1 + 1 + 1, 2, none⟩) (by simp) (.slice none 0 0)
        exact ⟨B0, d0, B1, d1, none, 0, rfl, N.lower (by omega), Kd.R_lower hM (by omega), E2.2.2⟩
      · skip
        by_cases h3 : o.f0 = 3
        · have hd : doneP P M o = lift3 (copyP P M o.f1) := by unfold doneP; rw [if_neg h0]; rw [if_neg h1]; rw [if_neg h2]; rw [if_pos h3]
          have hf := copy_f hS o.f1 1001 (by omega)
          rw [hd]
          clear hd
          generalize copyP P M o.f1 = r at hf ⊢
          obtain ⟨P', M', e'⟩ := r
          show Calls _ _ _ _ (RetMsg w P' M' 0 0 [] e')
          have q0 : (o.f0 == 0) = false := by simpa using h0
          have q1 : (o.f0 == 1) = false := by simpa using h1
          have q2 : (o.f0 == 2) = false := by simpa using h2
          have q3 : (o.f0 == 3) = true := by simpa using h3
          go_enter Try.func17, Try.ntmps17
          go_wp2_with fail
          refine (c_copyC (HN.below (Dn.start w _ _).bel) o.f1 hf).mono ?_
          rintro e w1 ⟨B0, d0, B1, d1, rfl, hN, hb⟩
          have D := (Dn.start w _ _).step hb
          replace hN := hN.lower (b' := w.heap.size + 1 + 1 + 1 + 1 + 1 + 1) (by simp)
          have yvx0 : w1.cell? ⟨w.heap.size + 1 + 1 + 1 + 1, 0, none⟩ = _ := (blk_cell D.vx 0).trans rfl
          have yvx1 : w1.cell? ⟨w.heap.size + 1 + 1 + 1 + 1, 1, none⟩ = _ := (blk_cell D.vx 1).trans rfl
          have zvx0 := blk_frozen D.vx 0
          have zvx1 := blk_frozen D.vx 1
          have E := D.setx (.slice B0 P'.length d0) (.slice B1 M'.length d1)
          have N := hN
          replace N := N.under (p := ⟨w.heap.size + 1 + 1 + 1 + 1, 0, none⟩) (by simp) (.slice B0 P'.length d0)
          replace N := N.under (p := ⟨w.heap.size + 1 + 1 + 1 + 1, 1, none⟩) (by simp) (.slice B1 M'.length d1)
          clear D hb hN
          go_wp2_with fail
          clear yvx0 yvx1 zvx0 zvx1
          generalize ((w1.setCell ⟨w.heap.size + 1 + 1 + 1 + 1, 0, none⟩ (.slice B0 P'.length d0)).setCell ⟨w.heap.size + 1 + 1 + 1 + 1, 1, none⟩ (.slice B1 M'.length d1)) = V at E N ⊢
          have hM : Kd.R (Kd.int .u8) 5 V (w.heap.size + 1 + 1 + 1 + 1 + 1 + 1) (fun _ => True) (.slice none 0 0) ([] : List Int) := Kd.R_nil _ _ _ _ _
          replace E := E.drew
          replace N := N.below (below_drew1 (Below.refl _ _))
          replace hM := Kd.R_drew hM
          refine start_ (n := 6) (S := fun w' => w'.cell? ⟨w.heap.size + 1 + 1 + 1 + 1, 0, none⟩ = some (.slice B0 P'.length d0) ∧ w'.cell? ⟨w.heap.size + 1 + 1 + 1 + 1, 1, none⟩ = some (.slice B1 M'.length d1) ∧ w'.cell? ⟨w.heap.size + 1 + 1 + 1 + 1 + 1, 0, none⟩ = some (.int .i64 0) ∧ w'.cell? ⟨w.heap.size + 1 + 1 + 1 + 1 + 1, 1, none⟩ = some (.int .i64 0) ∧ w'.cell? ⟨w.heap.size + 1 + 1 + 1 + 1 + 1, 2, none⟩ = some (.slice none 0 0)) (ds := []) #[false, false, false, false, false, false] (by kernel_rfl) rfl rfl ⟨(blk_cell E.vx 0).trans rfl, (blk_cell E.vx 1).trans rfl, (blk_cell E.vm 0).trans rfl, (blk_cell E.vm 1).trans rfl, (blk_cell E.vm 2).trans rfl⟩ (fun hHeld => ?_)
          generalize V.drew = w34 at E N hM hHeld ⊢
          refine pure_ (i := 2) (N := some 64) (v := ?_) (a' := ?_) #[false, false, true, false, false, false] rfl rfl (by kernel_rfl) (fun _ _ _ h => h) (Or.inl ⟨by rfl, ?_⟩) ?_ ?_
          rotate_left
          · intro w'
            go_simp
            with_reducible rfl
          rotate_left
          · simp only [Act.put, sA, sZ, sS, i64_w, i32_w]
            rfl
          refine take_ (i := 0) (N := some 62) (v := ?_) (a' := ?_) #[true, false, true, false, false, false] rfl rfl (by kernel_rfl) (fun _ _ _ h => h) (Or.inl ⟨by rfl, ?_⟩) hHeld ?_ ?_
          rotate_left
          · rintro w' ⟨s0, s1, s2, s3, s4⟩
            go_simp
            with_reducible rfl
          rotate_left
          · simp only [Act.put, sA, sZ, sS, i64_w, i32_w]
            rfl
          refine take_ (i := 1) (N := some 63) (v := ?_) (a' := ?_) #[true, true, true, false, false, false] rfl rfl (by kernel_rfl) (fun _ _ _ h => h) (Or.inl ⟨by rfl, ?_⟩) hHeld ?_ ?_
          rotate_left
          · rintro w' ⟨s0, s1, s2, s3, s4⟩
            go_simp
            with_reducible rfl
          rotate_left
          · simp only [Act.put, sA, sZ, sS, i64_w, i32_w]
            rfl
          refine one_ (i := 3) (N := none) #[true, true, true, true, false, false] rfl rfl (by kernel_rfl) (by decide) (fun K hK => ?_)
          have s0 : w34.cell? ⟨w.heap.size + 1 + 1, 0, none⟩ = _ := (blk_cell E.r25 0).trans rfl
          have t0 := blk_frozen E.r25 0
          have s1 : w34.cell? ⟨w.heap.size + 1 + 1, 1, none⟩ = _ := (blk_cell E.r25 1).trans rfl
          have t1 := blk_frozen E.r25 1
          refine skip_ (w1 := ?_) (by rfl) rfl ?_ ?_
          rotate_left
          · go_simp
            rfl
          refine hK.out _ _ ⟨((cell_far (by dsimp only; omega) _).trans ((cell_far (by dsimp only; omega) _).trans hHeld.1)), ((cell_far (by dsimp only; omega) _).trans ((cell_far (by dsimp only; omega) _).trans hHeld.2.1)), ((cell_far (by dsimp only; omega) _).trans ((cell_far (by dsimp only; omega) _).trans hHeld.2.2.1)), ((cell_far (by dsimp only; omega) _).trans ((cell_far (by dsimp only; omega) _).trans hHeld.2.2.2.1)), ((cell_far (by dsimp only; omega) _).trans ((cell_far (by dsimp only; omega) _).trans hHeld.2.2.2.2))⟩ (fun hHeld => ?_)
          clear hK K
          refine one_ (i := 4) (N := none) #[true, true, true, true, true, false] rfl rfl (by kernel_rfl) (by decide) (fun K hK => ?_)
          have s2 : w34.cell? ⟨w.heap.size + 1 + 1 + 1, 0, none⟩ = _ := (blk_cell E.r39 0).trans rfl
          have t2 := blk_frozen E.r39 0
          have s3 : w34.cell? ⟨w.heap.size + 1 + 1 + 1, 1, none⟩ = _ := (blk_cell E.r39 1).trans rfl
          have t3 := blk_frozen E.r39 1
          have s4 : w34.cell? ⟨w.heap.size + 1 + 1 + 1, 2, none⟩ = _ := (blk_cell E.r39 2).trans rfl
          have t4 := blk_frozen E.r39 2
          refine skip_ (w1 := ?_) (by rfl) rfl ?_ ?_
          rotate_left
          · go_simp
            rfl
          refine hK.out _ _ ⟨((cell_far (by dsimp only; omega) _).trans ((cell_far (by dsimp only; omega) _).trans ((cell_far (by dsimp only; omega) _).trans hHeld.1))), ((cell_far (by dsimp only; omega) _).trans ((cell_far (by dsimp only; omega) _).trans ((cell_far (by dsimp only; omega) _).trans hHeld.2.1))), ((cell_far (by dsimp only; omega) _).trans ((cell_far (by dsimp only; omega) _).trans ((cell_far (by dsimp only; omega) _).trans hHeld.2.2.1))), ((cell_far (by dsimp only; omega) _).trans ((cell_far (by dsimp only; omega) _).trans ((cell_far (by dsimp only; omega) _).trans hHeld.2.2.2.1))), ((cell_far (by dsimp only; omega) _).trans ((cell_far (by dsimp only; omega) _).trans ((cell_far (by dsimp only; omega) _).trans hHeld.2.2.2.2)))⟩ (fun hHeld => ?_)
          clear hK K
          refine pure_ (i := 5) (N := some 6) (v := ?_) (a' := ?_) #[true, true, true, true, true, true] rfl rfl (by kernel_rfl) (fun _ _ _ h => h) (Or.inl ⟨by rfl, ?_⟩) ?_ ?_
          rotate_left
          · intro w'
            go_simp
            with_reducible rfl
          rotate_left
          · simp only [Act.put, sA, sZ, sS, i64_w, i32_w]
            rfl
          refine done_ (by kernel_rfl) ?_
          try go_wp2
          have E2 := E.res (.slice B0 P'.length d0) (.slice B1 M'.length d1) (.int .i64 0) (.int .i64 0) (.slice none 0 0)
          refine bodyPost_ret (results_list (rs := [.cell 4 25, .cell 5 39, .tmp 6]) rfl (by simp) (.cell (w.heap.size + 1 + 1) 25 #[.slice B0 P'.length d0, .slice B1 M'.length d1] (0, 0) _ rfl E2.1 Try.underlying25 rfl (by kernel_rfl) (.cell (w.heap.size + 1 + 1 + 1) 39 #[.int .i64 0, .int .i64 0, (.slice none 0 0)] (0, 0) _ rfl E2.2.1 Try.underlying39 rfl (by kernel_rfl) (.tmp .nil)))) rfl ?_
          replace N := N.under (p := ⟨w.heap.size + 1 + 1, 0, none⟩) (by simp) (.slice B0 P'.length d0)
          replace hM := R_under hM (p := ⟨w.heap.size + 1 + 1, 0, none⟩) (by simp) (.slice B0 P'.length d0)
          replace N := N.under (p := ⟨w.heap.size + 1 + 1, 1, none⟩) (by simp) (.slice B1 M'.length d1)
          replace hM := R_under hM (p := ⟨w.heap.size + 1 + 1, 1, none⟩) (by simp) (.slice B1 M'.length d1)
          replace N := N.under (p := ⟨w.heap.size + 1 + 1 + 1, 0, none⟩) (by simp) (.int .i64 0)
          replace hM := R_under hM (p := ⟨w.heap.size + 1 + 1 + 1, 0, none⟩) (by simp) (.int .i64 0)
          replace N := N.under (p := ⟨w.heap.size + 1 + 1 + 1, 1, none⟩) (by simp) (.int .i64 0)
          replace hM := R_under hM (p := ⟨w.heap.size + 1 + 1 + 1, 1, none⟩) (by simp) (.int .i64 0)
          replace N := N.under (p := ⟨w.heap.size + 1 + 1 + 1, 2, none⟩) (by simp) (.slice none 0 0)
          replace hM := R_under hM (p := ⟨w.heap.size + 1 + 1 + 1, 2, none⟩) (by simp) (.slice none 0 0)
          exact ⟨B0, d0, B1, d1, none, 0, rfl, N.lower (by omega), Kd.R_lower hM (by omega), E2.2.2⟩
        · skip
          have hd : doneP P M o = lift3 (splitP P M o.f4) := by unfold doneP; rw [if_neg h0]; rw [if_neg h1]; rw [if_neg h2]; rw [if_neg h3]
          have hf := split_f hS o.f4 1002 (by omega)
          rw [hd]
          clear hd
          generalize splitP P M o.f4 = r at hf ⊢
          obtain ⟨P', M', e'⟩ := r
          show Calls _ _ _ _ (RetMsg w P' M' 0 0 [] e')
          have q0 : (o.f0 == 0) = false := by simpa using h0
          have q1 : (o.f0 == 1) = false := by simpa using h1
          have q2 : (o.f0 == 2) = false := by simpa using h2
          have q3 : (o.f0 == 3) = false := by simpa using h3
          go_enter Try.func17, Try.ntmps17
          go_wp2_with fail
          refine (c_splitC (HN.below (Dn.start w _ _).bel) o.f4 (Kd.C_below hr3 (Dn.start w _ _).bel) hc3 hf).mono ?_
          rintro e w1 ⟨B0, d0, B1, d1, rfl, hN, hb⟩
          have D := (Dn.start w _ _).step hb
          replace hN := hN.lower (b' := w.heap.size + 1 + 1 + 1 + 1 + 1 + 1) (by simp)
          have yvx0 : w1.cell? ⟨w.heap.size + 1 + 1 + 1 + 1, 0, none⟩ = _ := (blk_cell D.vx 0).trans rfl
          have yvx1 : w1.cell? ⟨w.heap.size + 1 + 1 + 1 + 1, 1, none⟩ = _ := (blk_cell D.vx 1).trans rfl
          have zvx0 := blk_frozen D.vx 0
          have zvx1 := blk_frozen D.vx 1
          have E := D.setx (.slice B0 P'.length d0) (.slice B1 M'.length d1)
          have N := hN
          replace N := N.under (p := ⟨w.heap.size + 1 + 1 + 1 + 1, 0, none⟩) (by simp) (.slice B0 P'.length d0)
          replace N := N.under (p := ⟨w.heap.size + 1 + 1 + 1 + 1, 1, none⟩) (by simp) (.slice B1 M'.length d1)
          clear D hb hN
          go_wp2_with fail
          clear yvx0 yvx1 zvx0 zvx1
          generalize ((w1.setCell ⟨w.heap.size + 1 + 1 + 1 + 1, 0, none⟩ (.slice B0 P'.length d0)).setCell ⟨w.heap.size + 1 + 1 + 1 + 1, 1, none⟩ (.slice B1 M'.length d1)) = V at E N ⊢
          have hM : Kd.R (Kd.int .u8) 5 V (w.heap.size + 1 + 1 + 1 + 1 + 1 + 1) (fun _ => True) (.slice none 0 0) ([] : List Int) := Kd.R_nil _ _ _ _ _
          replace E := E.drew
          replace N := N.below (below_drew1 (Below.refl _ _))
          replace hM := Kd.R_drew hM
          refine start_ (n := 6) (S := fun w' => w'.cell? ⟨w.heap.size + 1 + 1 + 1 + 1, 0, none⟩ = some (.slice B0 P'.length d0) ∧ w'.cell? ⟨w.heap.size + 1 + 1 + 1 + 1, 1, none⟩ = some (.slice B1 M'.length d1) ∧ w'.cell? ⟨w.heap.size + 1 + 1 + 1 + 1 + 1, 0, none⟩ = some (.int .i64 0) ∧ w'.cell? ⟨w.heap.size + 1 + 1 + 1 + 1 + 1, 1, none⟩ = some (.int .i64 0) ∧ w'.cell? ⟨w.heap.size + 1 + 1 + 1 + 1 + 1, 2, none⟩ = some (.slice none 0 0)) (ds := []) #[false, false, false, false, false, false] (by kernel_rfl) rfl rfl ⟨(blk_cell E.vx 0).trans rfl, (blk_cell E.vx 1).trans rfl, (blk_cell E.vm 0).trans rfl, (blk_cell E.vm 1).trans rfl, (blk_cell E.vm 2).trans rfl⟩ (fun hHeld => ?_)
          generalize V.drew = w34 at E N hM hHeld ⊢
          refine pure_ (i := 2) (N := some 64) (v := ?_) (a' := ?_) #[false, false, true, false, false, false] rfl rfl (by kernel_rfl) (fun _ _ _ h => h) (Or.inl ⟨by rfl, ?_⟩) ?_ ?_
          rotate_left
          · intro w'
            go_simp
            with_reducible rfl
          rotate_left
          · simp only [Act.put, sA, sZ, sS, i64_w, i32_w]
            rfl
          refine take_ (i := 0) (N := some 62) (v := ?_) (a' := ?_) #[true, false, true, false, false, false] rfl rfl (by kernel_rfl) (fun _ _ _ h => h) (Or.inl ⟨by rfl, ?_⟩) hHeld ?_ ?_
          rotate_left
          · rintro w' ⟨s0, s1, s2, s3, s4⟩
            go_simp
            with_reducible rfl
          rotate_left
          · simp only [Act.put, sA, sZ, sS, i64_w, i32_w]
            rfl
          refine take_ (i := 1) (N := some 63) (v := ?_) (a' := ?_) #[true, true, true, false, false, false] rfl rfl (by kernel_rfl) (fun _ _ _ h => h) (Or.inl ⟨by rfl, ?_⟩) hHeld ?_ ?_
          rotate_left
          · rintro w' ⟨s0, s1, s2, s3, s4⟩
            go_simp
            with_reducible rfl
          rotate_left
          · simp only [Act.put, sA, sZ, sS, i64_w, i32_w]
            rfl
          refine one_ (i := 3) (N := none) #[true, true, true, true, false, false] rfl rfl (by kernel_rfl) (by decide) (fun K hK => ?_)
          have s0 : w34.cell? ⟨w.heap.size + 1 + 1, 0, none⟩ = _ := (blk_cell E.r25 0).trans rfl
          have t0 := blk_frozen E.r25 0
          have s1 : w34.cell? ⟨w.heap.size + 1 + 1, 1, none⟩ = _ := (blk_cell E.r25 1).trans rfl
          have t1 := blk_frozen E.r25 1
          refine skip_ (w1 := ?_) (by rfl) rfl ?_ ?_
          rotate_left
          · go_simp
            rfl
          refine hK.out _ _ ⟨((cell_far (by dsimp only; omega) _).trans ((cell_far (by dsimp only; omega) _).trans hHeld.1)), ((cell_far (by dsimp only; omega) _).trans ((cell_far (by dsimp only; omega) _).trans hHeld.2.1)), ((cell_far (by dsimp only; omega) _).trans ((cell_far (by dsimp only; omega) _).trans hHeld.2.2.1)), ((cell_far (by dsimp only; omega) _).trans ((cell_far (by dsimp only; omega) _).trans hHeld.2.2.2.1)), ((cell_far (by dsimp only; omega) _).trans ((cell_far (by dsimp only; omega) _).trans hHeld.2.2.2.2))⟩ (fun hHeld => ?_)
          clear hK K
          refine one_ (i := 4) (N := none) #[true, true, true, true, true, false] rfl rfl (by kernel_rfl) (by decide) (fun K hK => ?_)
          have s2 : w34.cell? ⟨w.heap.size + 1 + 1 + 1, 0, none⟩ = _ := (blk_cell E.r39 0).trans rfl
          have t2 := blk_frozen E.r39 0
          have s3 : w34.cell? ⟨w.heap.size + 1 + 1 + 1, 1, none⟩ = _ := (blk_cell E.r39 1).trans rfl
          have t3 := blk_frozen E.r39 1
          have s4 : w34.cell? ⟨w.heap.size + 1 + 1 + 1, 2, none⟩ = _ := (blk_cell E.r39 2).trans rfl
          have t4 := blk_frozen E.r39 2
          refine skip_ (w1 := ?_) (by rfl) rfl ?_ ?_
          rotate_left
          · go_simp
            rfl
          refine hK.out _ _ ⟨((cell_far (by dsimp only; omega) _).trans ((cell_far (by dsimp only; omega) _).trans ((cell_far (by dsimp only; omega) _).trans hHeld.1))), ((cell_far (by dsimp only; omega) _).trans ((cell_far (by dsimp only; omega) _).trans ((cell_far (by dsimp only; omega) _).trans hHeld.2.1))), ((cell_far (by dsimp only; omega) _).trans ((cell_far (by dsimp only; omega) _).trans ((cell_far (by dsimp only; omega) _).trans hHeld.2.2.1))), ((cell_far (by dsimp only; omega) _).trans ((cell_far (by dsimp only; omega) _).trans ((cell_far (by dsimp only; omega) _).trans hHeld.2.2.2.1))), ((cell_far (by dsimp only; omega) _).trans ((cell_far (by dsimp only; omega) _).trans ((cell_far (by dsimp only; omega) _).trans hHeld.2.2.2.2)))⟩ (fun hHeld => ?_)
          clear hK K
          refine pure_ (i := 5) (N := some 6) (v := ?_) (a' := ?_) #[true, true, true, true, true, true] rfl rfl (by kernel_rfl) (fun _ _ _ h => h) (Or.inl ⟨by rfl, ?_⟩) ?_ ?_
          rotate_left
          · intro w'
            go_simp
            with_reducible rfl
          rotate_left
          · simp only [Act.put, sA, sZ, sS, i64_w, i32_w]
            rfl
          refine done_ (by kernel_rfl) ?_
          try go_wp2
          have E2 := E.res (.slice B0 P'.length d0) (.slice B1 M'.length d1) (.int .i64 0) (.int .i64 0) (.slice none 0 0)
          refine bodyPost_ret (results_list (rs := [.cell 4 25, .cell 5 39, .tmp 6]) rfl (by simp) (.cell (w.heap.size + 1 + 1) 25 #[.slice B0 P'.length d0, .slice B1 M'.length d1] (0, 0) _ rfl E2.1 Try.underlying25 rfl (by kernel_rfl) (.cell (w.heap.size + 1 + 1 + 1) 39 #[.int .i64 0, .int .i64 0, (.slice none 0 0)] (0, 0) _ rfl E2.2.1 Try.underlying39 rfl (by kernel_rfl) (.tmp .nil)))) rfl ?_
          replace N := N.under (p := ⟨w.heap.size + 1 + 1, 0, none⟩) (by simp) (.slice B0 P'.length d0)
          replace hM := R_under hM (p := ⟨w.heap.size + 1 + 1, 0, none⟩) (by simp) (.slice B0 P'.length d0)
          replace N := N.under (p := ⟨w.heap.size + 1 + 1, 1, none⟩) (by simp) (.slice B1 M'.length d1)
          replace hM := R_under hM (p := ⟨w.heap.size + 1 + 1, 1, none⟩) (by simp) (.slice B1 M'.length d1)
          replace N := N.under (p := ⟨w.heap.size + 1 + 1 + 1, 0, none⟩) (by simp) (.int .i64 0)
          replace hM := R_under hM (p := ⟨w.heap.size + 1 + 1 + 1, 0, none⟩) (by simp) (.int .i64 0)
          replace N := N.under (p := ⟨w.heap.size + 1 + 1 + 1, 1, none⟩) (by simp) (.int .i64 0)
          replace hM := R_under hM (p := ⟨w.heap.size + 1 + 1 + 1, 1, none⟩) (by simp) (.int .i64 0)
          replace N := N.under (p := ⟨w.heap.size + 1 + 1 + 1, 2, none⟩) (by simp) (.slice none 0 0)
          replace hM := R_under hM (p := ⟨w.heap.size + 1 + 1 + 1, 2, none⟩) (by simp) (.slice none 0 0)
          exact ⟨B0, d0, B1, d1, none, 0, rfl, N.lower (by omega), Kd.R_lower hM (by omega), E2.2.2⟩
theorem done_calls {w : World} {b : Nat} {A0 A1 A2 A3 : Option Addr} {c0 c1 c2 c3 : Nat} {P : List Int} {M : List S39} (o : S43) (HN : NR w b A0 c0 P A1 c1 M) (hS : Small P M) (hB : o.f3.length ≤ 1000000)
    (hr2 : Kd.C (Kd.int .u8) w A2 o.f3.length o.f3) (hc2 : o.f3.length ≤ c2) (hr3 : Kd.C (Kd.int .i64) w A3 o.f4.length o.f4) (hc3 : o.f4.length ≤ c3) :
    Calls Try.prog 17 #[.agg #[.slice A0 P.length c0, .slice A1 M.length c1], .agg #[.int .i64 o.f0, .int .i64 o.f1, .int .i64 o.f2, .slice A2 o.f3.length c2, .slice A3 o.f4.length c3]] w (RetDone w (doneP P M o)) := done_callsC o HN.nc hS hB hr2 hc2 hr3 hc3

end Go.Proofs.Ytlaheldjlfckkaa.A

/- NetworkFull: the walk. -/
import Derived.Test.YtlaheldjlfckkaaHPlaysA
import Derived.Test.YtlaheldjlfckkaaHAlive
import Derived.Test.YtlaheldjlfckkaaHLaws
import Derived.Test.YtlaheldjlfckkaaAx13
import Derived.Deep.RegionHeld3
namespace Go.Proofs.Ytlaheldjlfckkaa.A
open Go.RowKit Go.Proofs.YtlaheldjlfckkaaW.PrintWords Go.Proofs.YtlaheldjlfckkaaW.PrintLast Go.Proofs.YtlaheldjlfckkaaW.PrintMore
set_option linter.unusedVariables false
set_option linter.unusedSimpArgs false

theorem done_len2 {P : List Int} {M : List S39} (h : Ok P M) (o : S43) : (doneP P M o).1.length ≤ 1000 ∧ (doneP P M o).2.1.length ≤ 1000 := by
  by_cases he : (doneP P M o).2.2.2.2.2 = 0
  · have hI := done_ok h o he
    have h1 := hI.1
    have h2 := hI.2.1
    exact ⟨by omega, by omega⟩
  · have h1 := done_err he
    rw [h1.1, h1.2]
    exact ⟨Nat.zero_le _, Nat.zero_le _⟩
/-- One call in a row of its own. -/
theorem C_lit43 {W : World} {g : Nat} {o : S43} {A3 A4 : Option Addr} {c3 c4 : Nat} (h : W.heap[g]? = some (.cells #[.int .i64 o.f0, .int .i64 o.f1, .int .i64 o.f2, .slice A3 o.f3.length c3, .slice A4 o.f4.length c4] 43 (0, 0)))
    (h3 : Kd.C (Kd.int .u8) W A3 o.f3.length o.f3) (l3 : o.f3.length ≤ c3) (h4 : Kd.C (Kd.int .i64) W A4 o.f4.length o.f4) (l4 : o.f4.length ≤ c4) : Kd.C k43 W (some ⟨g, 0, none⟩) [o].length [o] :=
  ⟨rfl, by simp, fun _ => ⟨⟨g, 0, none⟩, rfl, fun j p hj => by
    match j, hj with
    | 0, hj =>
      simp only [List.getElem?_cons_zero, Option.some.injEq] at hj
      subst hj
      refine ⟨_, rfl, k43_mk W o l3 h3 l4 h4, fun i u hu => ?_⟩
      have := World.news_of_block h i u hu
      simpa using this
    | j + 1, hj => simp at hj⟩⟩
/-- One byte in a row of its own. -/
theorem F_lit5 {W : World} {g : Nat} {x : Int} (h : W.heap[g]? = some (.cells #[.int .u8 x] 5 (0, 0))) : Kd.F (Kd.int .u8) W (fun k => k = g) (some ⟨g, 0, none⟩) [x].length [x] := fun W' hW =>
  ⟨rfl, by simp, fun _ => ⟨⟨g, 0, none⟩, rfl, fun j p hj => by
    have hg : W'.heap[g]? = some (.cells #[.int .u8 x] 5 (0, 0)) := (hW g rfl (blk_lt h)).trans h
    match j, hj with
    | 0, hj =>
      simp only [List.getElem?_cons_zero, Option.some.injEq] at hj
      subst hj
      refine ⟨[.int .u8 x], rfl, rfl, fun i u hu => ?_⟩
      have := World.news_of_block hg i u hu
      simpa using this
    | j + 1, hj => simp at hj⟩⟩

/-- A row of whole numbers, where a row of messages was appended to. -/
theorem R_apart {w w1 : World} {base base2 : Nat} {ok : Nat → Prop} {v v0 : Value} {P : List Int} {M : List S39} (hR : Kd.R (Kd.int .i64) 3 w base (fun _ => True) v0 P) (hN : Kd.N k39 39 w base2 ok v M) (hg : w.grownBy w1 v.ownBlock) : Kd.R (Kd.int .i64) 3 w1 base (fun _ => True) v0 P := by
  cases h : v.ownBlock with
  | none =>
    rw [h] at hg
    exact Kd.R_grown hR hg (fun k _ => by simp)
  | some g =>
    obtain ⟨cells, hc⟩ := Kd.N_typed hN g h
    rw [h] at hg
    exact Kd.R_mono (Kd.R_grown (Kd.R_types hR hc (fun q hq => by simp [Kd.int, Kd.scalar] at hq; omega)) hg (fun k hk he => hk.2 (by injection he))) (fun _ _ => trivial)
set_option maxHeartbeats 64000000 in
set_option maxRecDepth 100000 in
theorem full_calls (n many : Int) (o : S43) (A3 A4 : Option Addr) (c3 c4 : Nat) (w : World) (h3 : Kd.C (Kd.int .u8) w A3 o.f3.length o.f3) (l3 : o.f3.length ≤ c3) (h4 : Kd.C (Kd.int .i64) w A4 o.f4.length o.f4) (l4 : o.f4.length ≤ c4) :
    Calls Try.prog 6 #[.int .i64 n, .int .i64 many, .agg #[.int .i64 o.f0, .int .i64 o.f1, .int .i64 o.f2, .slice A3 o.f3.length c3, .slice A4 o.f4.length c4]] w fun e w' => e = .returned (.bool true) ∧ Below w.heap.size w w' := by
  have HR := Lib.hid (And.intro h3 (And.intro l3 (And.intro h4 l4)))
  clear h3 l3 h4 l4
  go_enter Try.func6, Try.ntmps6
  go_wp2_with fail
  refine (alive_true _).mono ?_
  rintro e w1 ⟨rfl, hb0⟩
  have hb1 := below_step (below_alloc (Below.refl w.heap.size w) (.cells #[.int .i64 o.f0, .int .i64 o.f1, .int .i64 o.f2, .slice A3 o.f3.length c3, .slice A4 o.f4.length c4] 43)) hb0
  have HO := Lib.hid (blk_below (blk_new w (.cells #[.int .i64 o.f0, .int .i64 o.f1, .int .i64 o.f2, .slice A3 o.f3.length c3, .slice A4 o.f4.length c4] 43)) hb0)
  have hx1 := blk_lt HO.out
  clear hb0
  go_wp2_with fail
  have hnew := refnew_f n
  obtain ⟨P0, M0, e0, hn0⟩ : ∃ P0 M0 e0, newP n = (P0, M0, e0) := ⟨_, _, _, rfl⟩
  rw [hn0] at hnew
  refine ((skiarearef58_New.calls n P0 M0 e0 _ hnew).mono fun _ _ h => ret_net h).mono ?_
  rintro e w2 ⟨A0, c0, A1, c1, rfl, hN, hb2⟩
  have HNR := Lib.hid hN
  have hs12 : w1.heap.size ≤ w2.heap.size := hb2.size
  have hs01 : w.heap.size ≤ w1.heap.size := hb1.size
  have HB2 := Lib.hid (below_step hb1 hb2)
  have HO2 := Lib.hid (blk_below HO.out hb2)
  have HNW := Lib.hid hn0
  clear hb1 hb2 hN hnew hn0 HO
  have HV := Lib.hid (blk_new w2 (.cells #[.slice A0 P0.length c0, .slice A1 M0.length c1] 25))
  have HO3 := Lib.hid (blk_alloc HO2.out (.cells #[.slice A0 P0.length c0, .slice A1 M0.length c1] 25))
  have HB3 := Lib.hid (below_alloc HB2.out (.cells #[.slice A0 P0.length c0, .slice A1 M0.length c1] 25))
  have oc0 := (blk_cell HO3.out 0).trans rfl
  have oc1 := (blk_cell HO3.out 1).trans rfl
  have oc2 := (blk_cell HO3.out 2).trans rfl
  have oc3 := (blk_cell HO3.out 3).trans rfl
  have oc4 := (blk_cell HO3.out 4).trans rfl
  by_cases he : e0 = 0
  · have he1 : (e0 != 0) = false := by simpa using he
    by_cases h2 : n < 2
    · go_wp2_with fail
      go_ret
      exact ⟨rfl, HB3.out⟩
    · by_cases hm0 : many < 0
      · go_wp2_with fail
        go_ret
        exact ⟨rfl, HB3.out⟩
      · by_cases hm1 : 256 < many
        · go_wp2_with fail
          go_ret
          exact ⟨rfl, HB3.out⟩
        · go_wp2_with fail
          have hbx := below_alloc HB3.out (.cells #[.int .i64 o.f0, .int .i64 o.f1, .int .i64 o.f2, .slice A3 o.f3.length c3, .slice A4 o.f4.length c4] 43)
          have hlit := blk_new1 w2 (.cells #[.slice A0 P0.length c0, .slice A1 M0.length c1] 25) #[.int .i64 o.f0, .int .i64 o.f1, .int .i64 o.f2, .slice A3 o.f3.length c3, .slice A4 o.f4.length c4] 43
          refine (skiarealaw58_small.calls 60 (some ⟨w2.heap.size + 1, 0, none⟩) 1 [o] (smallP [o]) _ (C_lit43 hlit (Kd.C_below HR.out.1 hbx) HR.out.2.1 (Kd.C_below HR.out.2.2.1 hbx) HR.out.2.2.2) (Nat.le_refl _) (small_f [o] 60 (by omega))).mono ?_
          rintro e w3 ⟨rfl, hd⟩
          have hb3 := Drawn0.below hd
          have hb23 := below_step (below_alloc (Below.refl _ _) (.cells #[.int .i64 o.f0, .int .i64 o.f1, .int .i64 o.f2, .slice A3 o.f3.length c3, .slice A4 o.f4.length c4] 43)) hb3
          have HV4 := Lib.hid (blk_below HV.out hb23)
          have HO4 := Lib.hid (blk_below HO3.out hb23)
          have HB4 := Lib.hid (below_step HB3.out hb23)
          have HN4 := Lib.hid ((HNR.out.below (below_alloc (Below.refl _ _) (.cells #[.slice A0 P0.length c0, .slice A1 M0.length c1] 25))).below hb23)
          have hNN := (Kd.N_bound (Kd.R_N HNR.out.mail))
          have HM4 := Lib.hid (Kd.N_below (Kd.N_below (Kd.N_mono (ok' := fun k => k ≠ w2.heap.size) hNN (fun k hk => by have := hk.2; omega)) (below_alloc (Below.refl _ _) (.cells #[.slice A0 P0.length c0, .slice A1 M0.length c1] 25))) hb23)
          clear hd hb3 hb23 hbx hlit hNN oc0 oc1 oc2 oc3 oc4 HO2 HB2 HV HO3 HB3 HNR
          have oc0 := (blk_cell HO4.out 0).trans rfl
          have oc1 := (blk_cell HO4.out 1).trans rfl
          have oc2 := (blk_cell HO4.out 2).trans rfl
          have oc3 := (blk_cell HO4.out 3).trans rfl
          have oc4 := (blk_cell HO4.out 4).trans rfl
          cases hsm : smallP [o] with
          | false =>
            go_wp2_with fail
            go_ret
            exact ⟨rfl, HB4.out⟩
          | true =>
            have hso := (small_all hsm).2 o (by simp)
            clear hsm
            by_cases hf0 : o.f0 < 0
            · go_wp2_with fail
              go_ret
              exact ⟨rfl, HB4.out⟩
            · by_cases hf4 : 4 < o.f0
              · go_wp2_with fail
                go_ret
                exact ⟨rfl, HB4.out⟩
              · go_wp2_with fail
                go_loopw [9] (fun s9 wr => ∃ (j : Nat) (M : List S39) (A5 : Option Addr) (c5 : Nat), M.length = j ∧ (j : Int) ≤ many ∧ s9 = .int .i64 j ∧ (∀ m ∈ M, m.f2.length ≤ 1) ∧ Kd.R (Kd.int .i64) 3 wr w.heap.size (fun _ => True) (.slice A0 P0.length c0) P0 ∧ Kd.N k39 39 wr w.heap.size (fun k => k ≠ w2.heap.size) (.slice A5 M.length c5) M ∧ wr.heap[w2.heap.size]? = some (.cells #[.slice A0 P0.length c0, .slice A5 M.length c5] 25 (0, 0)) ∧ wr.heap[w.heap.size]? = some (.cells #[.int .i64 o.f0, .int .i64 o.f1, .int .i64 o.f2, .slice A3 o.f3.length c3, .slice A4 o.f4.length c4] 43 (0, 0)) ∧ Below w.heap.size w wr) (fun s9 _ => many.toNat - (intOf s9).toNat)
                case atStart =>
                  have hM0 : M0 = [] := by
                    have h := HNW.out
                    unfold newP at h
                    split at h
                    · injection h with _ h; injection h with h _; exact h.symm
                    · injection h with _ h; injection h with h _; exact h.symm
                  subst hM0
                  exact ⟨0, [], A1, c1, rfl, by omega, rfl, by simp, Kd.R_lower HN4.out.parts hs01, Kd.N_lower HM4.out hs01, HV4.out, HO4.out, HB4.out⟩
                case round =>
                  obtain ⟨j, M, A5, c5, hMl, hjm, rfl, hbod, hP, hMN, hV, hO, hB⟩ := hrel
                  clear oc0 oc1 oc2 oc3 oc4 HV4 HO4 HB4 HN4 HM4
                  have hBlt := blk_lt hV
                  have y0 := (blk_cell hV 0).trans rfl
                  have y1 := (blk_cell hV 1).trans rfl
                  have HP := Lib.hid hP
                  have HMN := Lib.hid hMN
                  have HV := Lib.hid hV
                  have HO := Lib.hid hO
                  have HB := Lib.hid hB
                  have HBD := Lib.hid hbod
                  have HML := Lib.hid hMl
                  clear hP hMN hV hO hB hbod hMl
                  by_cases hlt : (j : Int) < many
                  · have hn3 : n ≠ 0 := by omega
                    have e5 : IntKind.i64.wrap ((j : Int) + 1) = (j : Int) + 1 := IntWalk.i64_in _ (by omega)
                    have held := Lib.hid (fun (w' : World) (hb : Below wr.heap.size wr w') => (show w'.cell? ⟨w2.heap.size, 0, none⟩ = some (.slice A0 P0.length c0) ∧ w'.cell? ⟨w2.heap.size, 1, none⟩ = some (.slice A5 M.length c5) ∧ w'.frozen? ⟨w2.heap.size, 1, none⟩ = false from ⟨(blk_cell (blk_below HV.out hb) 0).trans rfl, (blk_cell (blk_below HV.out hb) 1).trans rfl, blk_frozen (blk_below HV.out hb) 1⟩))
                    go_wp2_with fail
                    refine start_ (n := 17) (S := (fun w' => w'.cell? ⟨w2.heap.size, 0, none⟩ = some (.slice A0 P0.length c0) ∧ w'.cell? ⟨w2.heap.size, 1, none⟩ = some (.slice A5 M.length c5) ∧ w'.frozen? ⟨w2.heap.size, 1, none⟩ = false)) (ds := [16]) #[false, false, false, false, false, false, false, false, false, false, false, false, false, false, false, false, false] (by kernel_rfl) rfl rfl (held.out _ (below_drew1 (Below.refl _ _))) (fun hHeld => ?_)
                    refine pure_ (i := 0) (N := some 57) (v := ?_) (a' := ?_) #[true, false, false, false, false, false, false, false, false, false, false, false, false, false, false, false, false] rfl rfl (by kernel_rfl) (fun _ _ _ h => h) (Or.inl ⟨by rfl, ?_⟩) ?_ ?_
                    rotate_left; (intro w'; go_simp; with_reducible rfl); rotate_left; (simp only [Act.put, sA, sZ, sS, i64_w, i32_w]; rfl)
                    refine take_ (i := 1) (N := some 58) (v := ?_) (a' := ?_) #[true, true, false, false, false, false, false, false, false, false, false, false, false, false, false, false, false] rfl rfl (by kernel_rfl) (fun _ _ _ h => h) (Or.inl ⟨by rfl, ?_⟩) hHeld ?_ ?_
                    rotate_left; (rintro w' ⟨s0, s1, s2⟩; go_simp; with_reducible rfl); rotate_left; (simp only [Act.put, sA, sZ, sS, i64_w, i32_w]; rfl)
                    refine pure_ (i := 2) (N := some 59) (v := ?_) (a' := ?_) #[true, true, true, false, false, false, false, false, false, false, false, false, false, false, false, false, false] rfl rfl (by kernel_rfl) (fun _ _ _ h => h) (Or.inl ⟨by rfl, ?_⟩) ?_ ?_
                    rotate_left; (intro w'; go_simp; with_reducible rfl); rotate_left; (simp only [Act.put, sA, sZ, sS, i64_w, i32_w]; rfl)
                    refine pure_ (i := 3) (N := some 60) (v := ?_) (a' := ?_) #[true, true, true, true, false, false, false, false, false, false, false, false, false, false, false, false, false] rfl rfl (by kernel_rfl) (fun _ _ _ h => h) (Or.inl ⟨by rfl, ?_⟩) ?_ ?_
                    rotate_left; (intro w'; go_simp; with_reducible rfl); rotate_left; (simp only [Act.put, sA, sZ, sS, i64_w, i32_w]; rfl)
                    refine pure_ (i := 4) (N := some 61) (v := ?_) (a' := ?_) #[true, true, true, true, true, false, false, false, false, false, false, false, false, false, false, false, false] rfl rfl (by kernel_rfl) (fun _ _ _ h => h) (Or.inl ⟨by rfl, ?_⟩) ?_ ?_
                    rotate_left; (intro w'; go_simp; with_reducible rfl); rotate_left; (simp only [Act.put, sA, sZ, sS, i64_w, i32_w]; rfl)
                    refine pure_ (i := 5) (N := some 62) (v := ?_) (a' := ?_) #[true, true, true, true, true, true, false, false, false, false, false, false, false, false, false, false, false] rfl rfl (by kernel_rfl) (fun _ _ _ h => h) (Or.inl ⟨by rfl, ?_⟩) ?_ ?_
                    rotate_left; (intro w'; go_simp; with_reducible rfl); rotate_left; (simp only [Act.put, sA, sZ, sS, i64_w, i32_w]; rfl)
                    refine pure_ (i := 6) (N := some 63) (v := ?_) (a' := ?_) #[true, true, true, true, true, true, true, false, false, false, false, false, false, false, false, false, false] rfl rfl (by kernel_rfl) (fun _ _ _ h => h) (Or.inl ⟨by rfl, ?_⟩) ?_ ?_
                    rotate_left; (intro w'; go_simp; with_reducible rfl); rotate_left; (simp only [Act.put, sA, sZ, sS, i64_w, i32_w]; rfl)
                    refine pure_ (i := 7) (N := some 64) (v := ?_) (a' := ?_) #[true, true, true, true, true, true, true, true, false, false, false, false, false, false, false, false, false] rfl rfl (by kernel_rfl) (fun _ _ _ h => h) (Or.inl ⟨by rfl, ?_⟩) ?_ ?_
                    rotate_left; (intro w'; go_simp; with_reducible rfl); rotate_left; (simp only [Act.put, sA, sZ, sS, i64_w, i32_w]; rfl)
                    refine pure_ (i := 8) (N := some 65) (v := ?_) (a' := ?_) #[true, true, true, true, true, true, true, true, true, false, false, false, false, false, false, false, false] rfl rfl (by kernel_rfl) (fun _ _ _ h => h) (Or.inl ⟨by rfl, ?_⟩) ?_ ?_
                    rotate_left; (intro w'; go_simp; with_reducible rfl); rotate_left; (simp only [Act.put, sA, sZ, sS, i64_w, i32_w]; rfl)
                    refine pure_ (i := 9) (N := some 66) (v := ?_) (a' := ?_) #[true, true, true, true, true, true, true, true, true, true, false, false, false, false, false, false, false] rfl rfl (by kernel_rfl) (fun _ _ _ h => h) (Or.inl ⟨by rfl, ?_⟩) ?_ ?_
                    rotate_left; (intro w'; go_simp; with_reducible rfl); rotate_left; (simp only [Act.put, sA, sZ, sS, i64_w, i32_w]; rfl)
                    refine pure_ (i := 10) (N := some 67) (v := ?_) (a' := ?_) #[true, true, true, true, true, true, true, true, true, true, true, false, false, false, false, false, false] rfl rfl (by kernel_rfl) (fun _ _ _ h => h) (Or.inl ⟨by rfl, ?_⟩) ?_ ?_
                    rotate_left; (intro w'; go_simp; with_reducible rfl); rotate_left; (simp only [Act.put, sA, sZ, sS, i64_w, i32_w]; rfl)
                    refine one_ (i := 11) (N := some 68) #[true, true, true, true, true, true, true, true, true, true, true, true, false, false, false, false, false] rfl rfl (by kernel_rfl) (by decide) (fun K hK => ?_)
                    go_simp
                    refine hK.out _ _ (held.out _ (below_drew1 (below_alloc (Below.refl _ _) _))) (fun hHeld => ?_)
                    clear hK K
                    refine norm_ (a' := ?_) ?_ ?_
                    rotate_left
                    · first | (simp only [Act.put, sA, sZ, sS, i64_w, i32_w]; rfl) | rfl
                    have hL := blk_drew (blk_new wr (.cells #[.int .u8 (IntKind.u8.wrap (j : Int))] 5))
                    have hbx : Below wr.heap.size wr (wr.alloc (.cells #[.int .u8 (IntKind.u8.wrap (j : Int))] 5)).drew := below_drew1 (below_alloc (Below.refl _ _) _)
                    generalize (wr.alloc (.cells #[.int .u8 (IntKind.u8.wrap (j : Int))] 5)).drew = X1 at hL hbx hHeld ⊢
                    refine pure_ (i := 12) (N := some 69) (v := ?_) (a' := ?_) #[true, true, true, true, true, true, true, true, true, true, true, true, true, false, false, false, false] rfl rfl (by kernel_rfl) (fun _ _ _ h => h) (Or.inl ⟨by rfl, ?_⟩) ?_ ?_
                    rotate_left; (intro w'; go_simp; with_reducible rfl); rotate_left; (simp only [Act.put, sA, sZ, sS, i64_w, i32_w]; rfl)
                    refine one_ (i := 13) (N := some 70) #[true, true, true, true, true, true, true, true, true, true, true, true, true, true, false, false, false] rfl rfl (by kernel_rfl) (by decide) (fun K hK => ?_)
                    go_simp
                    refine hK.out _ _ (held.out _ (below_alloc hbx _)) (fun hHeld => ?_)
                    clear hK K
                    refine norm_ (a' := ?_) ?_ ?_
                    rotate_left
                    · first | (simp only [Act.put, sA, sZ, sS, i64_w, i32_w]; rfl) | rfl
                    refine one_ (i := 14) (N := some 71) #[true, true, true, true, true, true, true, true, true, true, true, true, true, true, true, false, false] rfl rfl (by kernel_rfl) (by decide) (fun K hK => ?_)
                    have hBx : w2.heap.size < X1.heap.size := Nat.lt_of_lt_of_le hBlt hbx.size
                    refine Kd.N_append_step k39 (w0 := w) w.heap.size (by rfl) (.tmp 58) (.tmp 70) 23 39 (.agg #[.int .i64 0, .int .i64 0, .slice none 0 0]) 40 rfl Try.underlying23 info39 rfl (by decide) (by omega) (.slice A5 M.length c5) M (⟨((j : Int).tmod n), (((j : Int) + 1).tmod n), [(IntKind.u8.wrap (j : Int))]⟩ : S39) [.int .i64 ((j : Int).tmod n), .int .i64 (((j : Int) + 1).tmod n), .slice (some ⟨wr.heap.size, 0, none⟩) 1 1] (fun k => k ≠ w2.heap.size) (fun k => k = wr.heap.size) rfl rfl (k39_mkF X1 _ (⟨((j : Int).tmod n), (((j : Int) + 1).tmod n), [(IntKind.u8.wrap (j : Int))]⟩ : S39) (Nat.le_refl 1) (F_lit5 hL)) (fun k hk => by subst hk; exact ⟨by omega, fun he => by have := Kd.N_lt HMN.out _ he.symm; omega⟩) (fun k hk => by omega) (Kd.N_below HMN.out hbx) (below_step HB.out hbx) (below_step HB.out hbx).size (by have := HML.out; omega) ?_
                    intro v6 w6 hN6 hb6 hg6 hat6
                    have hV6 := (hg6.block w2.heap.size hBx (fun he => (HMN.out.1 _ he.symm) rfl)).trans (blk_below HV.out hbx)
                    have hO6 := (hg6.block w.heap.size (blk_lt (blk_below HO.out hbx)) (Kd.N_ne (Kd.N_below HMN.out hbx) (blk_below HO.out hbx) (by decide))).trans (blk_below HO.out hbx)
                    have hP6 := R_apart (Kd.R_below HP.out hbx) (Kd.N_below HMN.out hbx) hg6
                    obtain ⟨A6, c6, hv6⟩ := Kd.N_slice hN6
                    rw [List.length_append, List.length_singleton] at hv6
                    subst hv6
                    refine hK.out _ _ ⟨(blk_cell hV6 0).trans rfl, (blk_cell hV6 1).trans rfl, blk_frozen hV6 1⟩ (fun hHeld => ?_)
                    clear hK K
                    refine norm_ (a' := ?_) ?_ ?_
                    rotate_left
                    · first | (simp only [Act.put, sA, sZ, sS, i64_w, i32_w]; rfl) | rfl
                    refine pure_ (i := 15) (N := some 72) (v := ?_) (a' := ?_) #[true, true, true, true, true, true, true, true, true, true, true, true, true, true, true, true, false] rfl rfl (by kernel_rfl) (fun _ _ _ h => h) (Or.inl ⟨by rfl, ?_⟩) ?_ ?_
                    rotate_left; (intro w'; go_simp; with_reducible rfl); rotate_left; (simp only [Act.put, sA, sZ, sS, i64_w, i32_w]; rfl)
                    refine last_ (i := 16) (N := none) #[true, true, true, true, true, true, true, true, true, true, true, true, true, true, true, true, true] rfl rfl (by kernel_rfl) (by decide) (fun K hK => ?_)
                    have q0 := (blk_cell hV6 1).trans rfl
                    have q1 := blk_frozen hV6 1
                    refine skip_ (w1 := ?_) (by rfl) rfl ?_ ?_
                    rotate_left
                    · go_simp
                      rfl
                    refine hK.out _ _ ?_
                    clear hK K
                    refine done_ (by kernel_rfl) ?_
                    clear hHeld q0 q1 y0 y1
                    have hle : (M ++ [(⟨((j : Int).tmod n), (((j : Int) + 1).tmod n), [(IntKind.u8.wrap (j : Int))]⟩ : S39)]).length = M.length + 1 := by simp
                    have HN7 := Lib.hid (Kd.N_far hN6 (p := ⟨w2.heap.size, 1, none⟩) (fun k hk => hk) (.slice A6 (M.length + 1) c6))
                    have HV7 := Lib.hid (blk_set hV6 1 (.slice A6 (M.length + 1) c6))
                    have HO7 := Lib.hid (blk_far (p := ⟨w2.heap.size, 1, none⟩) hO6 (by dsimp only; omega) (.slice A6 (M.length + 1) c6))
                    have HP7 := Lib.hid (Kd.R_set hP6 hV6 (fun q hq => by simp [Kd.int, Kd.scalar] at hq; omega) 1 (.slice A6 (M.length + 1) c6))
                    have HB7 := Lib.hid (below_set (g := w2.heap.size) (j := 1) (v := .slice A6 (M.length + 1) c6) hb6 (Nat.le_trans hs01 hs12))
                    have HLE := Lib.hid hle
                    clear hN6 hV6 hO6 hP6 hb6 hg6 hat6 hle hL hbx
                    go_wp2_with fail
                    go_roundw
                    case rel => exact ⟨j + 1, M ++ [(⟨((j : Int).tmod n), (((j : Int) + 1).tmod n), [(IntKind.u8.wrap (j : Int))]⟩ : S39)], A6, c6, by rw [HLE.out, HML.out], by omega, by simp, (fun m hm => by
                      rcases List.mem_append.1 hm with hm | hm
                      · exact HBD.out m hm
                      · rw [List.mem_singleton.1 hm]; simp), HP7.out, by rw [HLE.out]; exact HN7.out, by rw [HLE.out]; exact HV7.out, HO7.out, HB7.out⟩
                    case measure => simp [intOf]; omega
                  · have hjm2 : (j : Int) = many := by omega
                    have hpr := Kd.R_reads' HP.out
                    have hmr := Kd.N_reads' HMN.out
                    have hNC : NC wr A0 c0 P0 A5 c5 M := ⟨⟨hpr.2.2, hpr.2.1⟩, ⟨hmr.2.2, hmr.2.1⟩⟩
                    have hNF : NF wr (fun _ => True) A0 c0 P0 A5 c5 M := ⟨⟨Kd.F_mono (Kd.R_F HP.out) (fun _ _ => trivial), hpr.2.1⟩, ⟨Kd.F_mono (Kd.N_F HMN.out) (fun _ _ => trivial), hmr.2.1⟩⟩
                    have hOk : Ok P0 M := by
                      have hi : Inv n P0 M0 := by have := new_inv (n := n); rw [HNW.out] at this; exact this he
                      have h1 := hi.len
                      have h2 := hi.hi
                      have h3 := HML.out
                      exact ⟨by omega, by omega, fun m hm => by have := HBD.out m hm; omega⟩
                    obtain ⟨P2, M2, f2, t2, b2, e2, hd⟩ : ∃ P2 M2 f2 t2 b2 e2, doneP P0 M o = (P2, M2, f2, t2, b2, e2) := ⟨_, _, _, _, _, _, rfl⟩
                    have hln := done_len2 hOk o
                    rw [hd] at hln
                    have hdc : Calls Try.prog 17 #[.agg #[.slice A0 P0.length c0, .slice A5 M.length c5], .agg #[.int .i64 o.f0, .int .i64 o.f1, .int .i64 o.f2, .slice A3 o.f3.length c3, .slice A4 o.f4.length c4]] wr (RetMsg wr P2 M2 f2 t2 b2 e2) := by
                      have h := done_callsC o hNC hOk.small (by omega) (Kd.C_below HR.out.1 HB.out) HR.out.2.1 (Kd.C_below HR.out.2.2.1 HB.out) HR.out.2.2.2
                      rw [hd] at h
                      exact h
                    have HEX := Lib.hid (fun (W : World) (hb : Below wr.heap.size wr W) => (show Calls Try.prog 18 #[.agg #[.slice A0 P0.length c0, .slice A5 M.length c5], .agg #[.int .i64 o.f0, .int .i64 o.f1, .int .i64 o.f2, .slice A3 o.f3.length c3, .slice A4 o.f4.length c4]] W (RefMsg W (fun _ => True) P2 M2 f2 t2 b2 e2) from by
                      have h := exp_calls (ok := fun _ => True) o (hNF.below hb) (fun _ _ => trivial) hOk.small (by omega) (Kd.C_below HR.out.1 (below_step HB.out hb)) HR.out.2.1 (Kd.C_below HR.out.2.2.1 (below_step HB.out hb)) HR.out.2.2.2
                      rw [hd] at h
                      exact h))
                    have oc0 := (blk_cell HO.out 0).trans rfl
                    have oc1 := (blk_cell HO.out 1).trans rfl
                    have oc2 := (blk_cell HO.out 2).trans rfl
                    have oc3 := (blk_cell HO.out 3).trans rfl
                    have oc4 := (blk_cell HO.out 4).trans rfl
                    have HLN := Lib.hid hln
                    clear hpr hmr hNC hNF hOk hd hln
                    go_wp2_with fail
                    refine hdc.mono ?_
                    rintro e w5 ⟨C0, k0, C1, k1, C2, k2, rfl, hN5, hM5, hb5⟩
                    clear hdc oc0 oc1 oc2 oc3 oc4 y0 y1
                    have hb5' : Below wr.heap.size wr ((w5.alloc (.cells #[.slice C0 P2.length k0, .slice C1 M2.length k1] 25)).alloc (.cells #[.int .i64 f2, .int .i64 t2, .slice C2 b2.length k2] 39)) := below_alloc (below_alloc hb5 _) _
                    have hB5 := blk_below HV.out hb5'
                    have hO5 := blk_below HO.out hb5'
                    have y0 := (blk_cell hB5 0).trans rfl
                    have y1 := (blk_cell hB5 1).trans rfl
                    have oc0 := (blk_cell hO5 0).trans rfl
                    have oc1 := (blk_cell hO5 1).trans rfl
                    have oc2 := (blk_cell hO5 2).trans rfl
                    have oc3 := (blk_cell hO5 3).trans rfl
                    have oc4 := (blk_cell hO5 4).trans rfl
                    have HX5 := Lib.hid (blk_alloc (blk_new w5 (.cells #[.slice C0 P2.length k0, .slice C1 M2.length k1] 25)) (.cells #[.int .i64 f2, .int .i64 t2, .slice C2 b2.length k2] 39))
                    have HY5 := Lib.hid (blk_new1 w5 (.cells #[.slice C0 P2.length k0, .slice C1 M2.length k1] 25) #[.int .i64 f2, .int .i64 t2, .slice C2 b2.length k2] 39)
                    have HN5 := Lib.hid ((hN5.alloc' (.cells #[.slice C0 P2.length k0, .slice C1 M2.length k1] 25)).alloc' (.cells #[.int .i64 f2, .int .i64 t2, .slice C2 b2.length k2] 39))
                    have HM5 := Lib.hid (Kd.R_below hM5 (below_alloc (below_alloc (Below.refl _ _) (.cells #[.slice C0 P2.length k0, .slice C1 M2.length k1] 25)) (.cells #[.int .i64 f2, .int .i64 t2, .slice C2 b2.length k2] 39)))
                    have HB5 := Lib.hid hb5'
                    clear hN5 hM5 hb5 hb5' hB5 hO5
                    go_wp2_with fail
                    refine (HEX.out _ HB5.out).mono ?_
                    rintro e w6 ⟨D0, m0, D1, m1, D2, m2, rfl, hN6, hM6, hb6⟩
                    clear oc0 oc1 oc2 oc3 oc4 y0 y1
                    have hb6' : Below ((w5.alloc (.cells #[.slice C0 P2.length k0, .slice C1 M2.length k1] 25)).alloc (.cells #[.int .i64 f2, .int .i64 t2, .slice C2 b2.length k2] 39)).heap.size ((w5.alloc (.cells #[.slice C0 P2.length k0, .slice C1 M2.length k1] 25)).alloc (.cells #[.int .i64 f2, .int .i64 t2, .slice C2 b2.length k2] 39)) ((w6.alloc (.cells #[.slice D0 P2.length m0, .slice D1 M2.length m1] 25)).alloc (.cells #[.int .i64 f2, .int .i64 t2, .slice D2 b2.length m2] 39)) := below_alloc (below_alloc hb6 _) _
                    have hX5 := blk_below HX5.out hb6'
                    have hY5 := blk_below HY5.out hb6'
                    have hX6 := blk_alloc (blk_new w6 (.cells #[.slice D0 P2.length m0, .slice D1 M2.length m1] 25)) (.cells #[.int .i64 f2, .int .i64 t2, .slice D2 b2.length m2] 39)
                    have hY6 := blk_new1 w6 (.cells #[.slice D0 P2.length m0, .slice D1 M2.length m1] 25) #[.int .i64 f2, .int .i64 t2, .slice D2 b2.length m2] 39
                    have hnew6 : Below w6.heap.size w6 ((w6.alloc (.cells #[.slice D0 P2.length m0, .slice D1 M2.length m1] 25)).alloc (.cells #[.int .i64 f2, .int .i64 t2, .slice D2 b2.length m2] 39)) := below_alloc (below_alloc (Below.refl _ _) _) _
                    have HNN := Lib.hid (HN5.out.below hb6')
                    have HMM := Lib.hid (Kd.R_below HM5.out hb6')
                    have HN6 := Lib.hid (hN6.below hnew6)
                    have HM6 := Lib.hid (And.intro (Kd.F_below hM6.1 hnew6) hM6.2)
                    have HB6 := Lib.hid (below_step HB.out (below_step HB5.out hb6'))
                    have HYY := Lib.hid (And.intro hY5 hY6)
                    have x0 := (blk_cell hX5 0).trans rfl
                    have x1 := (blk_cell hX5 1).trans rfl
                    have z0 := (blk_cell hX6 0).trans rfl
                    have z1 := (blk_cell hX6 1).trans rfl
                    clear hN6 hM6 hb6 hb6' hX5 hY5 hX6 hY6 hnew6
                    have q0 : (e2 == e2) = true := by simp
                    have hsame := skiarearef58_Same.calls 2020 C0 k0 P2 C1 k1 M2 D0 m0 P2 D1 m1 M2 true _ HNN.out.p.1 HNN.out.p.2 HNN.out.m.1 HNN.out.m.2 HN6.out.nc.p.1 HN6.out.p.2 HN6.out.nc.m.1 HN6.out.m.2 (same_f P2 M2 HLN.out.1 HLN.out.2 2020 (by omega))
                    go_wp2_with fail
                    refine hsame.mono ?_
                    rintro e w7 ⟨rfl, hb7⟩
                    clear hsame x0 x1 z0 z1
                    have hY5 := blk_below HYY.out.1 hb7
                    have hY6 := blk_below HYY.out.2 hb7
                    have t10 := (blk_cell hY5 0).trans rfl
                    have t11 := (blk_cell hY5 1).trans rfl
                    have t12 := (blk_cell hY5 2).trans rfl
                    have t13 := (blk_cell hY6 0).trans rfl
                    have t14 := (blk_cell hY6 1).trans rfl
                    have t15 := (blk_cell hY6 2).trans rfl
                    have hbd := Kd.R_reads' (Kd.R_below HMM.out hb7)
                    have hsm := skiarearef58_SameMessage.calls f2 t2 C2 k2 b2 f2 t2 D2 m2 b2 true w7 hbd.2.2 hbd.2.1 (Kd.F_now (Kd.F_below HM6.out.1 hb7)) HM6.out.2 (samemsg_f f2 t2 b2)
                    clear hY5 hY6 hbd
                    go_wp2_with fail
                    refine hsm.mono ?_
                    rintro e w8 ⟨rfl, hb8⟩
                    have HB8 := Lib.hid (below_step HB6.out (below_step hb7 hb8))
                    clear hsm t10 t11 t12 t13 t14 t15 hb7 hb8
                    go_wp2_with fail
                    go_ret
                    exact ⟨rfl, HB8.out⟩
  · have he1 : (e0 != 0) = true := by simpa using he
    go_wp2_with fail
    go_ret
    exact ⟨rfl, HB3.out⟩

/-! ### in the form of a printed function -/
def law_true (k : Nat) : Option Bool := some true
theorem PureNetworkFull (n many : Int) (o : S43) (w0 : (Lit.int .i64 n).wf = true) (w1 : (Lit.int .i64 many).wf = true) (hF : OpOk o) : ∃ k, law_true k = some true := ⟨0, rfl⟩
theorem skiarealaw58_NetworkFull.calls (k : Nat) (n many : Int) (A3 : Option Addr) (c3 : Nat) (A4 : Option Addr) (c4 : Nat) (o : S43) (r : Bool) (w : World) (h3 : Kd.C (Kd.int .u8) w A3 o.f3.length o.f3) (l3 : o.f3.length ≤ c3) (h4 : Kd.C (Kd.int .i64) w A4 o.f4.length o.f4) (l4 : o.f4.length ≤ c4) (h : law_true k = some r) :
    Calls Try.prog 6 #[.int .i64 n, .int .i64 many, .agg #[.int .i64 o.f0, .int .i64 o.f1, .int .i64 o.f2, .slice A3 o.f3.length c3, .slice A4 o.f4.length c4]] w fun e w' => e = .returned (.bool r) ∧ Below w.heap.size w w' := by
  obtain rfl := Option.some.inj h
  exact full_calls n many o A3 A4 c3 c4 w h3 l3 h4 l4

end Go.Proofs.Ytlaheldjlfckkaa.A

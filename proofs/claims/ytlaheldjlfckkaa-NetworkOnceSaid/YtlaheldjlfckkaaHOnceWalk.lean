/- NetworkOnce: the walk. -/
import Derived.Test.YtlaheldjlfckkaaHOncePure
import Derived.Test.YtlaheldjlfckkaaHAlive
import Derived.Test.YtlaheldjlfckkaaHLaws
import Derived.Test.YtlaheldjlfckkaaAx13
import Derived.Deep.RegionHeld3
namespace Go.Proofs.Ytlaheldjlfckkaa.A
open Go.RowKit Go.Proofs.YtlaheldjlfckkaaW.PrintWords Go.Proofs.YtlaheldjlfckkaaW.PrintLast Go.Proofs.YtlaheldjlfckkaaW.PrintMore
set_option linter.unusedVariables false
set_option linter.unusedSimpArgs false

def okB (B : Nat) (v : Value) : Nat → Prop := fun k => k ≠ B ∧ some k ≠ v.ownBlock

set_option maxHeartbeats 64000000 in
set_option maxRecDepth 100000 in
theorem once_calls (n : Int) (A : Option Addr) (c : Nat) (l : List S43) (w : World) (hr : Kd.C k43 w A l.length l) (hc : l.length ≤ c) :
    Calls Try.prog 8 #[.int .i64 n, .slice A l.length c] w fun e w' => e = .returned (.bool true) ∧ Below w.heap.size w w' := by
  have HR := Lib.hid hr
  clear hr
  go_enter Try.func8, Try.ntmps8
  go_wp2_with fail
  refine (alive_true _).mono ?_
  rintro e w1 ⟨rfl, hb1⟩
  go_wp2_with fail
  have hnew := new_f n
  obtain ⟨P0, M0, e0, hn0⟩ : ∃ P0 M0 e0, newP n = (P0, M0, e0) := ⟨_, _, _, rfl⟩
  rw [hn0] at hnew
  refine (c_new n hnew).mono ?_
  rintro e w2 ⟨A0, c0, A1, c1, rfl, hN, hb2⟩
  have HN := Lib.hid (hN.alloc' (.cells #[.slice A0 P0.length c0, .slice A1 M0.length c1] 25))
  have HB := Lib.hid (below_alloc (below_step hb1 hb2) (.cells #[.slice A0 P0.length c0, .slice A1 M0.length c1] 25))
  have HV := Lib.hid (blk_new w2 (.cells #[.slice A0 P0.length c0, .slice A1 M0.length c1] 25))
  have hs12 : w1.heap.size ≤ w2.heap.size := hb2.size
  have hs01 : w.heap.size ≤ w1.heap.size := hb1.size
  have HNW := Lib.hid hn0
  clear hb1 hb2 hN hnew hn0
  go_wp2_with fail
  refine (skiarealaw58_small.calls 60 A c l (smallP l) _ (Kd.C_below HR.out HB.out) hc (small_f l 60 (by omega))).mono ?_
  rintro e w3 ⟨rfl, hd⟩
  have hb3 := Drawn0.below hd
  replace HN := Lib.hid (HN.out.below hb3)
  replace HB := Lib.hid (below_step HB.out hb3)
  replace HV := Lib.hid (blk_below HV.out hb3)
  have hs3 := blk_lt HV.out
  clear hd hb3
  cases hsm : smallP l with
  | false =>
    clear hsm
    go_wp2_with fail
    go_ret
    exact ⟨rfl, HB.out⟩
  | true =>
    have HS := Lib.hid (small_all hsm)
    clear hsm
    by_cases he : e0 = 0
    · have he1 : (e0 != 0) = false := by simpa using he
      have hi : Inv n P0 M0 := by have := new_inv (n := n); rw [HNW.out] at this; exact this he
      have HI := Lib.hid hi
      have hM0 : M0 = [] := by
        have h := HNW.out
        unfold newP at h
        split at h
        · injection h with _ h; injection h with h _; exact h.symm
        · injection h with _ h; injection h with h _; exact h.symm
      clear hi he
      go_wp2_with fail
      go_loopw [7, 8, 9, 10] (fun s7 s8 s9 s10 wr => ∃ (j : Nat) (B0 B1 : Option Addr) (d0 d1 : Nat) (Q : List Int) (N sent got : List S39) (cp : Bool), j ≤ l.length ∧ s10 = .int .i64 j ∧ s9 = .bool cp ∧ NR wr w.heap.size B0 d0 Q B1 d1 N ∧ wr.heap[w2.heap.size]? = some (.cells #[.slice B0 Q.length d0, .slice B1 N.length d1] 25 (0, 0)) ∧ Below w.heap.size w wr ∧ Inv n Q N ∧ Kd.N k39 39 wr w.heap.size (okB w2.heap.size s8) s7 sent ∧ Kd.N k39 39 wr w.heap.size (okB w2.heap.size s7) s8 got ∧ sent.length ≤ j ∧ got.length ≤ j ∧ OnceInv N sent got cp) (fun s7 s8 s9 s10 _ => l.length - (intOf s10).toNat)
      case atStart =>
        subst hM0
        refine ⟨0, A0, A1, c0, c1, P0, [], [], [], false, Nat.zero_le _, rfl, rfl, (HN.out.lower hs01).below (below_alloc (below_alloc (Below.refl _ _) _) _), blk_alloc (blk_alloc HV.out _) _, below_alloc (below_alloc HB.out _) _, HI.out, ?_, ?_, Nat.le_refl _, Nat.le_refl _, OnceInv.start⟩
        · exact Kd.N_alloc (N_empty HB.out.size ⟨by omega, by simp [Value.ownBlock]⟩) _
        · have h := N_empty (W := w3.alloc (.cells #[] 39)) (base := w.heap.size) (ok := okB w2.heap.size (.slice (some ⟨w3.heap.size, 0, none⟩) 0 0)) (by have := HB.out.size; simp; omega) ⟨by simp; omega, by simp [Value.ownBlock]⟩
          simpa using h
      case round =>
        obtain ⟨j, B0, B1, d0, d1, Q, N, sent, got, cp, hj, rfl, rfl, hN, hV, hB, hI, hNS, hNG, hls, hlg, hO⟩ := hrel
        clear HN HV HB HI hM0
        obtain ⟨AS, cS, rfl⟩ := Kd.N_slice hNS
        obtain ⟨AG, cG, rfl⟩ := Kd.N_slice hNG
        have y0 : wr.cell? ⟨w2.heap.size, 0, none⟩ = some (.slice B0 Q.length d0) := (blk_cell hV 0).trans rfl
        have y1 : wr.cell? ⟨w2.heap.size, 1, none⟩ = some (.slice B1 N.length d1) := (blk_cell hV 1).trans rfl
        have hBlt := blk_lt hV
        have HN := Lib.hid hN
        have HV := Lib.hid hV
        have HB := Lib.hid hB
        have HI := Lib.hid hI
        have HNS := Lib.hid hNS
        have HNG := Lib.hid hNG
        have HO := Lib.hid hO
        clear hN hV hB hI hNS hNG hO
        by_cases hlt : j < l.length
        · have hltz : (j : Int) < (l.length : Int) := by omega
          have hl40 := HS.out.1
          have e5 : IntKind.i64.wrap ((j : Int) + 1) = (j : Int) + 1 := IntWalk.i64_in _ (by omega)
          obtain ⟨ad, A3, c3, A4, c4, eA, x0, x1, x2, x3, x4, h3, g3, h4, g4⟩ := at_T43 HR.out (j : Int) (by omega) hltz
          subst eA
          have hm : rd_T43 l (j : Int) ∈ l := by
            have : rd_T43 l (j : Int) = l[j] := by unfold rd_T43; simp [List.getD_eq_getElem?_getD, hlt]
            rw [this]
            exact List.getElem_mem hlt
          have hBo := HS.out.2 _ hm
          clear hm
          generalize rd_T43 l (j : Int) = o at *
          rw [Int.toNat_natCast] at x0 x1 x2 x3 x4
          have HXX := Lib.hid (fun (w' : World) (hb : Below w.heap.size w w') => (show w'.cell? (ad.add (j * 5)) = some (.int .i64 o.f0) ∧ w'.cell? ⟨(ad.add (j * 5)).block, (ad.add (j * 5)).off + 1, none⟩ = some (.int .i64 o.f1) ∧ w'.cell? ⟨(ad.add (j * 5)).block, (ad.add (j * 5)).off + 2, none⟩ = some (.int .i64 o.f2) ∧ w'.cell? ⟨(ad.add (j * 5)).block, (ad.add (j * 5)).off + 3, none⟩ = some (.slice A3 o.f3.length c3) ∧ w'.cell? ⟨(ad.add (j * 5)).block, (ad.add (j * 5)).off + 4, none⟩ = some (.slice A4 o.f4.length c4) from
            ⟨(hb.cell (World.block_lt_of_cell? w _ x0)).trans x0, (hb.cell (World.block_lt_of_cell? w _ x1)).trans x1, (hb.cell (World.block_lt_of_cell? w _ x2)).trans x2, (hb.cell (World.block_lt_of_cell? w _ x3)).trans x3, (hb.cell (World.block_lt_of_cell? w _ x4)).trans x4⟩))
          have HAR := Lib.hid (And.intro h3 (And.intro g3 (And.intro h4 g4)))
          obtain ⟨P2, M2, f2, t2, b2, e2, hd⟩ : ∃ P2 M2 f2 t2 b2 e2, doneP Q N o = (P2, M2, f2, t2, b2, e2) := ⟨_, _, _, _, _, _, rfl⟩
          have HC := Lib.hid (fun (w' : World) (hb : Below wr.heap.size wr w') => (show Calls Try.prog 17 #[.agg #[.slice B0 Q.length d0, .slice B1 N.length d1], .agg #[.int .i64 o.f0, .int .i64 o.f1, .int .i64 o.f2, .slice A3 o.f3.length c3, .slice A4 o.f4.length c4]] w' (RetMsg w' P2 M2 f2 t2 b2 e2) from by
            have h := done_calls o (HN.out.below hb) HI.out.ok.small (by omega) (Kd.C_below HAR.out.2.1 (below_step HB.out hb)) HAR.out.1 (Kd.C_below HAR.out.2.2.2 (below_step HB.out hb)) HAR.out.2.2.1
            rw [hd] at h
            exact h))
          have held := Lib.hid (fun (w' : World) (hb : Below wr.heap.size wr w') => (show w'.cell? ⟨w2.heap.size, 0, none⟩ = some (.slice B0 Q.length d0) ∧ w'.cell? ⟨w2.heap.size, 1, none⟩ = some (.slice B1 N.length d1) ∧ w'.cell? (ad.add (j * 5)) = some (.int .i64 o.f0) ∧
              w'.cell? ⟨(ad.add (j * 5)).block, (ad.add (j * 5)).off + 1, none⟩ = some (.int .i64 o.f1) ∧ w'.cell? ⟨(ad.add (j * 5)).block, (ad.add (j * 5)).off + 2, none⟩ = some (.int .i64 o.f2) ∧
              w'.cell? ⟨(ad.add (j * 5)).block, (ad.add (j * 5)).off + 3, none⟩ = some (.slice A3 o.f3.length c3) ∧ w'.cell? ⟨(ad.add (j * 5)).block, (ad.add (j * 5)).off + 4, none⟩ = some (.slice A4 o.f4.length c4) ∧ Below wr.heap.size wr w' from
            have hx := HXX.out w' (below_step HB.out hb)
            ⟨(blk_cell (blk_below HV.out hb) 0).trans rfl, (blk_cell (blk_below HV.out hb) 1).trans rfl, hx.1, hx.2.1, hx.2.2.1, hx.2.2.2.1, hx.2.2.2.2, hb⟩))
          have HDD := Lib.hid hd
          clear h3 g3 h4 g4 hd x0 x1 x2 x3 x4 hj
          go_wp2_with fail
          rename_i K3 a3
          have HA3 := Lib.hid a3
          clear a3
          have fin := Lib.hid (fun (V : World) (X Y : Nat) (v4 v30 v31 v32 v33 v34 v35 v36 v37 v38 v39 v40 v41 v42 v43 v44 v45 v46 v47 v48 v49 v50 v51 v52 v53 v54 v55 v56 v57 v58 v59 v60 v61 v62 v63 v64 v65 v66 v67 v68 v69 v70 v71 v72 v73 v74 v75 v76 v77 v78 v79 v80 v81 v82 v83 v84 v85 v86 v87 v88 v89 v90 v91 v92 v93 v94 v95 v96 v97 v98 v99 v100 v101 v102 v103 v104 v105 v106 v107 v108 v109 v110 v111 v112 v113 v114 : Value) (C0 C1 C2 : Option Addr) (k0 k1 k2 : Nat) (hbV : Below wr.heap.size wr V) (hX : V.heap[X]? = some (.cells #[.slice C0 P2.length k0, .slice C1 M2.length k1] 25 (0, 0))) (hY : V.heap[Y]? = some (.cells #[.int .i64 f2, .int .i64 t2, .slice C2 b2.length k2] 39 (0, 0))) (hYr : wr.heap.size ≤ Y) (hNM : NM V wr.heap.size C0 k0 P2 C1 k1 M2 C2 k2 b2) =>
            (show K3 { tmps := #[.int .i64 n, .slice (some ad) l.length c, undef, undef, v4, .pointer (some ⟨w2.heap.size, 0, none⟩), .int .i64 e0, .slice AS sent.length cS, .slice AG got.length cG, .bool cp, .int .i64 j, .pointer (some ⟨X, 0, none⟩), .pointer (some ⟨Y, 0, none⟩), .int .i64 e2, .bool true, .bool false, .tuple #[Value.agg #[.slice A0 P0.length c0, .slice A1 0 c1], .int .i64 e0], .int .i64 n, .tuple #[Value.agg #[.slice A0 P0.length c0, .slice A1 0 c1], .int .i64 e0], Value.agg #[.slice A0 P0.length c0, .slice A1 0 c1], .int .i64 e0, .slice (some ad) l.length c, .bool true, .bool false, .bool false, .int .i64 e0, .bool false, .bool false, .slice (some ⟨w3.heap.size, 0, none⟩) 0 0, .slice (some ⟨w3.heap.size + 1, 0, none⟩) 0 0, v30, v31, v32, v33, v34, v35, v36, v37, v38, v39, v40, v41, v42, v43, v44, v45, v46, v47, v48, v49, v50, v51, v52, v53, v54, v55, v56, v57, v58, v59, v60, v61, v62, v63, v64, v65, v66, v67, v68, v69, v70, v71, v72, v73, v74, v75, v76, v77, v78, v79, v80, v81, v82, v83, v84, v85, v86, v87, v88, v89, v90, v91, v92, v93, v94, v95, v96, v97, v98, v99, v100, v101, v102, v103, v104, v105, v106, v107, v108, v109, v110, v111, v112, v113, v114], defers := [] } V from by
              refine HA3.out _ _ ?_
              by_cases he2 : e2 = 0
              · subst he2
                have he3 : ((0 : Int) != 0) = false := rfl
                have y2 : V.cell? ⟨X, 0, none⟩ = some (.slice C0 P2.length k0) := (blk_cell hX 0).trans rfl
                have y3 : V.cell? ⟨X, 1, none⟩ = some (.slice C1 M2.length k1) := (blk_cell hX 1).trans rfl
                have hVV := blk_below HV.out hbV
                have z0 : V.cell? ⟨w2.heap.size, 0, none⟩ = some (.slice B0 Q.length d0) := (blk_cell hVV 0).trans rfl
                have z1 : V.cell? ⟨w2.heap.size, 1, none⟩ = some (.slice B1 N.length d1) := (blk_cell hVV 1).trans rfl
                have z2 := blk_frozen hVV 0
                have z3 := blk_frozen hVV 1
                have hI2 : Inv n P2 M2 := by
                  have h := step_inv (n := (Q, N)) HI.out o
                  have e : stepP (Q, N) o = (P2, M2) := by unfold stepP; rw [HDD.out]; rfl
                  rw [e] at h
                  exact h
                have HI2 := Lib.hid hI2
                have hb0 := HB.out.size
                have hBw : w.heap.size ≤ w2.heap.size := Nat.le_trans hs01 hs12
                have HB' := Lib.hid (below_set (j := 1) (v := .slice C1 M2.length k1) (below_set (j := 0) (v := .slice C0 P2.length k0) (below_step HB.out hbV) hBw) hBw)
                have HV' := Lib.hid (blk_set (blk_set hVV 0 (.slice C0 P2.length k0)) 1 (.slice C1 M2.length k1))
                have HNM' := Lib.hid ((hNM.under (p := ⟨w2.heap.size, 0, none⟩) hBlt (.slice C0 P2.length k0)).under (p := ⟨w2.heap.size, 1, none⟩) hBlt (.slice C1 M2.length k1))
                have HNS' := Lib.hid (Kd.N_far (Kd.N_far (Kd.N_below HNS.out hbV) (p := ⟨w2.heap.size, 0, none⟩) (fun k hk => hk.1) (.slice C0 P2.length k0)) (p := ⟨w2.heap.size, 1, none⟩) (fun k hk => hk.1) (.slice C1 M2.length k1))
                have HNG' := Lib.hid (Kd.N_far (Kd.N_far (Kd.N_below HNG.out hbV) (p := ⟨w2.heap.size, 0, none⟩) (fun k hk => hk.1) (.slice C0 P2.length k0)) (p := ⟨w2.heap.size, 1, none⟩) (fun k hk => hk.1) (.slice C1 M2.length k1))
                have hYB : Y ≠ w2.heap.size := by omega
                have HY' := Lib.hid (blk_far (p := ⟨w2.heap.size, 1, none⟩) (blk_far (p := ⟨w2.heap.size, 0, none⟩) hY hYB (.slice C0 P2.length k0)) hYB (.slice C1 M2.length k1))
                have hSlt : ∀ k, (Value.slice AS sent.length cS).ownBlock = some k → k < wr.heap.size := Kd.N_lt HNS.out
                have hGlt : ∀ k, (Value.slice AG got.length cG).ownBlock = some k → k < wr.heap.size := Kd.N_lt HNG.out
                have hsz1 : wr.heap.size ≤ ((V.setCell ⟨w2.heap.size, 0, none⟩ (.slice C0 P2.length k0)).setCell ⟨w2.heap.size, 1, none⟩ (.slice C1 M2.length k1)).heap.size := by simpa [World.setCell] using hbV.size
                have hokS : ∀ k, k < w.heap.size → okB w2.heap.size (.slice AG got.length cG) k ∧ some k ≠ (Value.slice AS sent.length cS).ownBlock := fun k hk =>
                  ⟨⟨by omega, fun he => by have := Kd.N_base HNG.out k he.symm; omega⟩, fun he => by have := Kd.N_base HNS.out k he.symm; omega⟩
                have hfrS : ∀ k, wr.heap.size ≤ k → okB w2.heap.size (.slice AG got.length cG) k := fun k hk => ⟨by omega, fun he => by have := hGlt k he.symm; omega⟩
                have hfrG : ∀ k, wr.heap.size ≤ k → okB w2.heap.size (.slice AS sent.length cS) k := fun k hk => ⟨by omega, fun he => by have := hSlt k he.symm; omega⟩
                have hSB : some w2.heap.size ≠ (Value.slice AS sent.length cS).ownBlock := fun he => (HNS.out.1 _ he.symm).1 rfl
                have hGB : some w2.heap.size ≠ (Value.slice AG got.length cG).ownBlock := fun he => (HNG.out.1 _ he.symm).1 rfl
                clear hbV hX hY hNM hVV hI2
                obtain ⟨p0, p1, p2, p3, _⟩ := HXX.out _ HB'.out
                by_cases h0 : o.f0 = 0
                · have q0 : (o.f0 == 0) = true := by simpa using h0
                  have q1 : (o.f0 != 1) = true := by rw [h0]; rfl
                  have q3 : (o.f0 == 3) = false := by rw [h0]; rfl
                  have HO2 := Lib.hid (show OnceInv M2 (sent ++ [⟨o.f1, o.f2, o.f3⟩]) got cp by rw [once_send h0 HDD.out]; exact HO.out.send _)
                  go_wp2_with fail
                  clear y2 y3 z0 z1 z2 z3 p0 p1 p2 p3 HY'
                  generalize ((V.setCell ⟨w2.heap.size, 0, none⟩ (.slice C0 P2.length k0)).setCell ⟨w2.heap.size, 1, none⟩ (.slice C1 M2.length k1)) = V1 at HB' HV' HNM' HNS' HNG' hsz1 ⊢
                  refine start_ (n := 20) (S := (fun w' => w'.cell? ⟨(ad.add (j * 5)).block, (ad.add (j * 5)).off + 1, none⟩ = some (.int .i64 o.f1) ∧ w'.cell? ⟨(ad.add (j * 5)).block, (ad.add (j * 5)).off + 2, none⟩ = some (.int .i64 o.f2) ∧ w'.cell? ⟨(ad.add (j * 5)).block, (ad.add (j * 5)).off + 3, none⟩ = some (.slice A3 o.f3.length c3) ∧ Below w.heap.size w w')) (ds := []) #[false, false, false, false, false, false, false, false, false, false, false, false, false, false, false, false, false, false, false, false] (by kernel_rfl) rfl rfl ((have hx := HXX.out _ (below_drew1 HB'.out); ⟨hx.2.1, hx.2.2.1, hx.2.2.2.1, below_drew1 HB'.out⟩)) (fun hHeld => ?_)
                  refine pure_ (i := 0) (N := some 55) (v := ?_) (a' := ?_) #[true, false, false, false, false, false, false, false, false, false, false, false, false, false, false, false, false, false, false, false] rfl rfl (by kernel_rfl) (fun _ _ _ h => h) (Or.inl ⟨by rfl, ?_⟩) ?_ ?_
                  rotate_left
                  · intro w'
                    go_simp
                    with_reducible rfl
                  rotate_left
                  · simp only [Act.put, List.setIfInBounds_toArray, List.set_cons_zero, List.set_cons_succ, i64_w, i32_w]
                    rfl
                  refine pure_ (i := 1) (N := some 56) (v := ?_) (a' := ?_) #[true, true, false, false, false, false, false, false, false, false, false, false, false, false, false, false, false, false, false, false] rfl rfl (by kernel_rfl) (fun _ _ _ h => h) (Or.inl ⟨by rfl, ?_⟩) ?_ ?_
                  rotate_left
                  · intro w'
                    go_simp
                    with_reducible rfl
                  rotate_left
                  · simp only [Act.put, List.setIfInBounds_toArray, List.set_cons_zero, List.set_cons_succ, i64_w, i32_w]
                    rfl
                  refine pure_ (i := 2) (N := some 57) (v := ?_) (a' := ?_) #[true, true, true, false, false, false, false, false, false, false, false, false, false, false, false, false, false, false, false, false] rfl rfl (by kernel_rfl) (fun _ _ _ h => h) (Or.inl ⟨by rfl, ?_⟩) ?_ ?_
                  rotate_left
                  · intro w'
                    go_simp
                    with_reducible rfl
                  rotate_left
                  · simp only [Act.put, List.setIfInBounds_toArray, List.set_cons_zero, List.set_cons_succ, i64_w, i32_w]
                    rfl
                  refine pure_ (i := 3) (N := some 58) (v := ?_) (a' := ?_) #[true, true, true, true, false, false, false, false, false, false, false, false, false, false, false, false, false, false, false, false] rfl rfl (by kernel_rfl) (fun _ _ _ h => h) (Or.inl ⟨by rfl, ?_⟩) ?_ ?_
                  rotate_left
                  · intro w'
                    go_simp
                    with_reducible rfl
                  rotate_left
                  · simp only [Act.put, List.setIfInBounds_toArray, List.set_cons_zero, List.set_cons_succ, i64_w, i32_w]
                    rfl
                  refine pure_ (i := 4) (N := some 59) (v := ?_) (a' := ?_) #[true, true, true, true, true, false, false, false, false, false, false, false, false, false, false, false, false, false, false, false] rfl rfl (by kernel_rfl) (fun _ _ _ h => h) (Or.inl ⟨by rfl, ?_⟩) ?_ ?_
                  rotate_left
                  · intro w'
                    go_simp
                    with_reducible rfl
                  rotate_left
                  · simp only [Act.put, List.setIfInBounds_toArray, List.set_cons_zero, List.set_cons_succ, i64_w, i32_w]
                    rfl
                  refine take_ (i := 5) (N := some 60) (v := ?_) (a' := ?_) #[true, true, true, true, true, true, false, false, false, false, false, false, false, false, false, false, false, false, false, false] rfl rfl (by kernel_rfl) (fun _ _ _ h => h) (Or.inl ⟨by rfl, ?_⟩) hHeld ?_ ?_
                  rotate_left
                  · rintro w' ⟨s0, s1, s2, s3⟩
                    go_simp
                    with_reducible rfl
                  rotate_left
                  · simp only [Act.put, List.setIfInBounds_toArray, List.set_cons_zero, List.set_cons_succ, i64_w, i32_w]
                    rfl
                  refine pure_ (i := 6) (N := some 61) (v := ?_) (a' := ?_) #[true, true, true, true, true, true, true, false, false, false, false, false, false, false, false, false, false, false, false, false] rfl rfl (by kernel_rfl) (fun _ _ _ h => h) (Or.inl ⟨by rfl, ?_⟩) ?_ ?_
                  rotate_left
                  · intro w'
                    go_simp
                    with_reducible rfl
                  rotate_left
                  · simp only [Act.put, List.setIfInBounds_toArray, List.set_cons_zero, List.set_cons_succ, i64_w, i32_w]
                    rfl
                  refine pure_ (i := 7) (N := some 62) (v := ?_) (a' := ?_) #[true, true, true, true, true, true, true, true, false, false, false, false, false, false, false, false, false, false, false, false] rfl rfl (by kernel_rfl) (fun _ _ _ h => h) (Or.inl ⟨by rfl, ?_⟩) ?_ ?_
                  rotate_left
                  · intro w'
                    go_simp
                    with_reducible rfl
                  rotate_left
                  · simp only [Act.put, List.setIfInBounds_toArray, List.set_cons_zero, List.set_cons_succ, i64_w, i32_w]
                    rfl
                  refine pure_ (i := 8) (N := some 63) (v := ?_) (a' := ?_) #[true, true, true, true, true, true, true, true, true, false, false, false, false, false, false, false, false, false, false, false] rfl rfl (by kernel_rfl) (fun _ _ _ h => h) (Or.inl ⟨by rfl, ?_⟩) ?_ ?_
                  rotate_left
                  · intro w'
                    go_simp
                    with_reducible rfl
                  rotate_left
                  · simp only [Act.put, List.setIfInBounds_toArray, List.set_cons_zero, List.set_cons_succ, i64_w, i32_w]
                    rfl
                  refine pure_ (i := 9) (N := some 64) (v := ?_) (a' := ?_) #[true, true, true, true, true, true, true, true, true, true, false, false, false, false, false, false, false, false, false, false] rfl rfl (by kernel_rfl) (fun _ _ _ h => h) (Or.inl ⟨by rfl, ?_⟩) ?_ ?_
                  rotate_left
                  · intro w'
                    go_simp
                    with_reducible rfl
                  rotate_left
                  · simp only [Act.put, List.setIfInBounds_toArray, List.set_cons_zero, List.set_cons_succ, i64_w, i32_w]
                    rfl
                  refine take_ (i := 10) (N := some 65) (v := ?_) (a' := ?_) #[true, true, true, true, true, true, true, true, true, true, true, false, false, false, false, false, false, false, false, false] rfl rfl (by kernel_rfl) (fun _ _ _ h => h) (Or.inl ⟨by rfl, ?_⟩) hHeld ?_ ?_
                  rotate_left
                  · rintro w' ⟨s0, s1, s2, s3⟩
                    go_simp
                    with_reducible rfl
                  rotate_left
                  · simp only [Act.put, List.setIfInBounds_toArray, List.set_cons_zero, List.set_cons_succ, i64_w, i32_w]
                    rfl
                  refine pure_ (i := 11) (N := some 66) (v := ?_) (a' := ?_) #[true, true, true, true, true, true, true, true, true, true, true, true, false, false, false, false, false, false, false, false] rfl rfl (by kernel_rfl) (fun _ _ _ h => h) (Or.inl ⟨by rfl, ?_⟩) ?_ ?_
                  rotate_left
                  · intro w'
                    go_simp
                    with_reducible rfl
                  rotate_left
                  · simp only [Act.put, List.setIfInBounds_toArray, List.set_cons_zero, List.set_cons_succ, i64_w, i32_w]
                    rfl
                  refine pure_ (i := 12) (N := some 67) (v := ?_) (a' := ?_) #[true, true, true, true, true, true, true, true, true, true, true, true, true, false, false, false, false, false, false, false] rfl rfl (by kernel_rfl) (fun _ _ _ h => h) (Or.inl ⟨by rfl, ?_⟩) ?_ ?_
                  rotate_left
                  · intro w'
                    go_simp
                    with_reducible rfl
                  rotate_left
                  · simp only [Act.put, List.setIfInBounds_toArray, List.set_cons_zero, List.set_cons_succ, i64_w, i32_w]
                    rfl
                  refine pure_ (i := 13) (N := some 68) (v := ?_) (a' := ?_) #[true, true, true, true, true, true, true, true, true, true, true, true, true, true, false, false, false, false, false, false] rfl rfl (by kernel_rfl) (fun _ _ _ h => h) (Or.inl ⟨by rfl, ?_⟩) ?_ ?_
                  rotate_left
                  · intro w'
                    go_simp
                    with_reducible rfl
                  rotate_left
                  · simp only [Act.put, List.setIfInBounds_toArray, List.set_cons_zero, List.set_cons_succ, i64_w, i32_w]
                    rfl
                  refine pure_ (i := 14) (N := some 69) (v := ?_) (a' := ?_) #[true, true, true, true, true, true, true, true, true, true, true, true, true, true, true, false, false, false, false, false] rfl rfl (by kernel_rfl) (fun _ _ _ h => h) (Or.inl ⟨by rfl, ?_⟩) ?_ ?_
                  rotate_left
                  · intro w'
                    go_simp
                    with_reducible rfl
                  rotate_left
                  · simp only [Act.put, List.setIfInBounds_toArray, List.set_cons_zero, List.set_cons_succ, i64_w, i32_w]
                    rfl
                  refine take_ (i := 15) (N := some 70) (v := ?_) (a' := ?_) #[true, true, true, true, true, true, true, true, true, true, true, true, true, true, true, true, false, false, false, false] rfl rfl (by kernel_rfl) (fun _ _ _ h => h) (Or.inl ⟨by rfl, ?_⟩) hHeld ?_ ?_
                  rotate_left
                  · rintro w' ⟨s0, s1, s2, s3⟩
                    go_simp
                    with_reducible rfl
                  rotate_left
                  · simp only [Act.put, List.setIfInBounds_toArray, List.set_cons_zero, List.set_cons_succ, i64_w, i32_w]
                    rfl
                  refine pure_ (i := 16) (N := some 71) (v := ?_) (a' := ?_) #[true, true, true, true, true, true, true, true, true, true, true, true, true, true, true, true, true, false, false, false] rfl rfl (by kernel_rfl) (fun _ _ _ h => h) (Or.inl ⟨by rfl, ?_⟩) ?_ ?_
                  rotate_left
                  · intro w'
                    go_simp
                    with_reducible rfl
                  rotate_left
                  · simp only [Act.put, List.setIfInBounds_toArray, List.set_cons_zero, List.set_cons_succ, i64_w, i32_w]
                    rfl
                  refine one_ (i := 17) (N := some 72) #[true, true, true, true, true, true, true, true, true, true, true, true, true, true, true, true, true, true, false, false] rfl rfl (by kernel_rfl) (by decide) (fun K hK => ?_)
                  go_simp
                  refine hK.out _ _ (have hx := HXX.out _ (below_alloc (below_drew1 HB'.out) _); ⟨hx.2.1, hx.2.2.1, hx.2.2.2.1, below_alloc (below_drew1 HB'.out) _⟩) (fun hHeld => ?_)
                  clear hK K
                  refine norm_ (a' := ?_) ?_ ?_
                  rotate_left
                  · first | (simp only [Act.put, List.setIfInBounds_toArray, List.set_cons_zero, List.set_cons_succ, i64_w, i32_w]; rfl) | rfl
                  refine one_ (i := 18) (N := some 73) #[true, true, true, true, true, true, true, true, true, true, true, true, true, true, true, true, true, true, true, false] rfl rfl (by kernel_rfl) (by decide) (fun K hK => ?_)
                  refine Kd.N_append_step k39 (w0 := w) w.heap.size (by rfl) (.tmp 55) (.tmp 72) 23 39 (.agg #[.int .i64 0, .int .i64 0, .slice none 0 0]) 40 rfl Try.underlying23 info39 rfl (by decide) (by omega) (.slice AS sent.length cS) sent ⟨o.f1, o.f2, o.f3⟩ [.int .i64 o.f1, .int .i64 o.f2, .slice A3 o.f3.length c3] (okB w2.heap.size (.slice AG got.length cG)) (fun k => k < w.heap.size) rfl rfl (k39_mkF _ _ ⟨o.f1, o.f2, o.f3⟩ HAR.out.1 (Kd.F_below (Kd.C_F (Kd.heap_int .u8) HAR.out.2.1) (below_drew1 HB'.out))) hokS (fun k hk => hfrS k (Nat.le_trans hsz1 hk)) (Kd.N_drew HNS'.out) (below_drew1 HB'.out) (below_drew1 HB'.out).size (by omega) ?_
                  intro v1 w5 hN1 hb1 hg1 hat1
                  refine hK.out _ _ (have hx := HXX.out _ (hb1); ⟨hx.2.1, hx.2.2.1, hx.2.2.2.1, hb1⟩) (fun hHeld => ?_)
                  clear hK K
                  refine norm_ (a' := ?_) ?_ ?_
                  rotate_left
                  · first | (simp only [Act.put, List.setIfInBounds_toArray, List.set_cons_zero, List.set_cons_succ, i64_w, i32_w]; rfl) | rfl
                  refine pure_ (i := 19) (N := some 7) (v := ?_) (a' := ?_) #[true, true, true, true, true, true, true, true, true, true, true, true, true, true, true, true, true, true, true, true] rfl rfl (by kernel_rfl) (fun _ _ _ h => h) (Or.inl ⟨by rfl, ?_⟩) ?_ ?_
                  rotate_left
                  · intro w'
                    go_simp
                    with_reducible rfl
                  rotate_left
                  · simp only [Act.put, List.setIfInBounds_toArray, List.set_cons_zero, List.set_cons_succ, i64_w, i32_w]
                    rfl
                  refine done_ (by kernel_rfl) ?_
                  obtain ⟨A5, c5, hv5⟩ := Kd.N_slice hN1
                  rw [List.length_append, List.length_singleton] at hv5
                  subst hv5
                  have r0 := (HXX.out w5 hb1).1
                  have HN5 := Lib.hid ((NM.grown (HNM'.out.below (below_drew (Below.refl _ _))) hg1 hSlt).net.lower hb0)
                  have HV5 := Lib.hid ((hg1.block w2.heap.size (blk_lt (blk_drew HV'.out)) hSB).trans (blk_drew HV'.out))
                  have HS5 := Lib.hid hN1
                  have HG5 := Lib.hid (Kd.N_after (ok := fun k => k ≠ w2.heap.size) (Kd.N_drew HNG'.out) hg1 hat1)
                  have HB5 := Lib.hid hb1
                  clear hN1 hg1 hat1 hb1 hHeld
                  cases cp
                  all_goals (
                    go_wp2_with fail
                    go_roundw
                    case rel => exact ⟨j + 1, C0, C1, k0, k1, P2, M2, sent ++ [⟨o.f1, o.f2, o.f3⟩], got, _, hlt, by simp, rfl, HN5.out, HV5.out, HB5.out, HI2.out, HS5.out, HG5.out, by simp; omega, by omega, HO2.out⟩
                    case measure => simp [intOf]; omega)
                · have q0 : (o.f0 == 0) = false := by simpa using h0
                  by_cases h1 : o.f0 = 1
                  · have q1 : (o.f0 != 1) = false := by rw [h1]; rfl
                    have q3 : (o.f0 == 3) = false := by rw [h1]; rfl
                    have hde := once_deliver h1 HDD.out
                    have HO2 := Lib.hid (show OnceInv M2 sent (got ++ [(⟨f2, t2, b2⟩ : S39)]) cp by rw [hde.2.1, ← hde.2.2]; exact HO.out.deliver hde.1)
                    have hms : (⟨f2, t2, b2⟩ : S39) ∈ sent := by
                      have hb := index_bounds hde.1
                      obtain ⟨q, hq⟩ := Int.eq_ofNat_of_zero_le hb.1
                      have h := HO.out.sub (rd_T39 N o.f1) (by rw [hq]; exact rd_mem (by omega))
                      rwa [hde.2.2] at h
                    have s0 : ((V.setCell ⟨w2.heap.size, 0, none⟩ (.slice C0 P2.length k0)).setCell ⟨w2.heap.size, 1, none⟩ (.slice C1 M2.length k1)).cell? ⟨Y, 0, none⟩ = some (.int .i64 f2) := (blk_cell HY'.out 0).trans rfl
                    have s1 : ((V.setCell ⟨w2.heap.size, 0, none⟩ (.slice C0 P2.length k0)).setCell ⟨w2.heap.size, 1, none⟩ (.slice C1 M2.length k1)).cell? ⟨Y, 1, none⟩ = some (.int .i64 t2) := (blk_cell HY'.out 1).trans rfl
                    have s2 : ((V.setCell ⟨w2.heap.size, 0, none⟩ (.slice C0 P2.length k0)).setCell ⟨w2.heap.size, 1, none⟩ (.slice C1 M2.length k1)).cell? ⟨Y, 2, none⟩ = some (.slice C2 b2.length k2) := (blk_cell HY'.out 2).trans rfl
                    have hokG : ∀ k, wr.heap.size ≤ k → okB w2.heap.size (.slice AS sent.length cS) k ∧ some k ≠ (Value.slice AG got.length cG).ownBlock := fun k hk => ⟨hfrG k hk, fun he => by have := hGlt k he.symm; omega⟩
                    have HFG := Lib.hid (k39_mkF ((V.setCell ⟨w2.heap.size, 0, none⟩ (.slice C0 P2.length k0)).setCell ⟨w2.heap.size, 1, none⟩ (.slice C1 M2.length k1)) (fun k => wr.heap.size ≤ k) (⟨f2, t2, b2⟩ : S39) (Kd.R_reads' HNM'.out.body).2.1 (Kd.R_F (Kd.R_mono (Kd.R_bound HNM'.out.body) (fun k hk => hk.2.1))))
                    have HMS := Lib.hid hms
                    have HSZ := Lib.hid (show ((V.setCell ⟨w2.heap.size, 0, none⟩ (.slice C0 P2.length k0)).setCell ⟨w2.heap.size, 1, none⟩ (.slice C1 M2.length k1)).heap.size = V.heap.size by simp [World.setCell])
                    have HPP := Lib.hid (And.intro hokG hfrG)
                    clear hde hms hokS hfrS hokG hfrG
                    cases cp
                    all_goals (
                      go_wp2_with (first | ((with_reducible refine gate_builtin (b := .append) (xs := #[.tmp 89, .tmp 91]) rfl ?_); at_builtin; refine Kd.N_append k39 (w0 := w) w.heap.size rfl (.tmp 89) (.tmp 91) 23 39 (.agg #[.int .i64 0, .int .i64 0, .slice none 0 0]) 40 rfl Try.underlying23 info39 rfl (by decide) (by omega) (.slice AG got.length cG) got (⟨f2, t2, b2⟩ : S39) [.int .i64 f2, .int .i64 t2, .slice C2 b2.length k2] (okB w2.heap.size (.slice AS sent.length cS)) (fun k => wr.heap.size ≤ k) rfl (show Value.slice (some ⟨V.heap.size, 0, none⟩) 1 1 = Value.slice (some ⟨((V.setCell ⟨w2.heap.size, 0, none⟩ (.slice C0 P2.length k0)).setCell ⟨w2.heap.size, 1, none⟩ (.slice C1 M2.length k1)).heap.size, 0, none⟩) 1 1 by rw [HSZ.out]) HFG.out HPP.out.1 (fun k hk => HPP.out.2 k (Nat.le_trans hsz1 hk)) HNG'.out HB'.out HB'.out.size (by omega) ?_; intro v1 w5 hN1 hb1 hg1 hat1))
                      clear y2 y3 z0 z1 z2 z3 p0 p1 p2 p3 s0 s1 s2
                      obtain ⟨A5, c5, hv5⟩ := Kd.N_slice hN1
                      rw [List.length_append, List.length_singleton] at hv5
                      subst hv5
                      have hYne : some Y ≠ (Value.slice AG got.length cG).ownBlock := fun he => by have := hGlt Y he.symm; omega
                      have HM5 := Lib.hid (NM.grown HNM'.out hg1 hGlt)
                      have HN5 := Lib.hid (HM5.out.net.lower hb0)
                      have HV5 := Lib.hid ((hg1.block w2.heap.size (blk_lt HV'.out) hGB).trans HV'.out)
                      have HY5 := Lib.hid ((hg1.block Y (blk_lt HY'.out) hYne).trans HY'.out)
                      have HG5 := Lib.hid hN1
                      have HS5 := Lib.hid (Kd.N_after (ok := fun k => k ≠ w2.heap.size) HNS'.out hg1 hat1)
                      have HB5 := Lib.hid hb1
                      clear hN1 hg1 hat1 hb1 HFG HY' HNS' HNG' HNM' HB'
                      have HCnt := Lib.hid (fun (w' : World) (hb : Below w5.heap.size w5 w') (AX : Option Addr) (nX cX : Nat) (L : List S39) (hn : L.length = nX) (hC : Kd.C k39 w5 AX L.length L) (hc : L.length ≤ cX) (hL : L.length ≤ 1000) => (show Calls Try.prog 22 #[.slice AX nX cX, .agg #[.int .i64 f2, .int .i64 t2, .slice C2 b2.length k2]] w' (fun e w'' => e = .returned (.int .i64 ((L.countP (sm (⟨f2, t2, b2⟩ : S39)) : Nat) : Int)) ∧ Below w'.heap.size w' w'') from by
                        subst hn
                        exact skiarealaw58_count.calls 1010 AX cX L f2 t2 C2 k2 b2 _ _ (Kd.C_below hC hb) hc (Kd.C_below (Kd.R_reads' HM5.out.body).2.2 hb) (Kd.R_reads' HM5.out.body).2.1 (count_f L hL (⟨f2, t2, b2⟩ : S39) 1010 (by omega))))
                      have HC1 := Lib.hid (fun (w' : World) (hb : Below w5.heap.size w5 w') => HCnt.out w' hb AS _ cS sent rfl (Kd.N_reads' HS5.out).2.2 (Kd.N_reads' HS5.out).2.1 (by omega))
                      have HC2 := Lib.hid (fun (w' : World) (hb : Below w5.heap.size w5 w') => HCnt.out w' hb A5 _ c5 (got ++ [(⟨f2, t2, b2⟩ : S39)]) (Kd.N_reads' HG5.out).1.symm (Kd.N_reads' HG5.out).2.2 (by have h := (Kd.N_reads' HG5.out); rw [← h.1]; exact h.2.1) (by simp; omega))
                      have HC3 := Lib.hid (fun (w' : World) (hb : Below w5.heap.size w5 w') => HCnt.out w' hb C1 _ k1 M2 rfl HM5.out.net.m.1 HM5.out.net.m.2 (by have := HI2.out.mail; omega))
                      have held20 := Lib.hid (fun (w' : World) (hb : Below w5.heap.size w5 w') => (show w'.cell? ⟨Y, 0, none⟩ = some (.int .i64 f2) ∧ w'.cell? ⟨Y, 1, none⟩ = some (.int .i64 t2) ∧ w'.cell? ⟨Y, 2, none⟩ = some (.slice C2 b2.length k2) ∧ w'.cell? ⟨w2.heap.size, 0, none⟩ = some (.slice C0 P2.length k0) ∧ w'.cell? ⟨w2.heap.size, 1, none⟩ = some (.slice C1 M2.length k1) ∧ Below w5.heap.size w5 w' from
                        ⟨(blk_cell (blk_below HY5.out hb) 0).trans rfl, (blk_cell (blk_below HY5.out hb) 1).trans rfl, (blk_cell (blk_below HY5.out hb) 2).trans rfl, (blk_cell (blk_below HV5.out hb) 0).trans rfl, (blk_cell (blk_below HV5.out hb) 1).trans rfl, hb⟩))
                      have hn1 : 1 ≤ sent.countP (sm (⟨f2, t2, b2⟩ : S39)) := List.countP_pos_iff.2 ⟨_, HMS.out, sm_self _⟩
                      have hq1 : (((sent.countP (sm (⟨f2, t2, b2⟩ : S39)) : Nat) : Int) == 0) = false := by rw [beq_eq_false_iff_ne]; omega)
                    · have hq2 := HO2.out.cnt rfl (sm (⟨f2, t2, b2⟩ : S39))
                      have hm1 : sent.countP (sm (⟨f2, t2, b2⟩ : S39)) ≤ 1000 := Nat.le_trans List.countP_le_length (by omega)
                      generalize sent.countP (sm (⟨f2, t2, b2⟩ : S39)) = nS at HC1 hn1 hq1 hm1 hq2
                      generalize (got ++ [(⟨f2, t2, b2⟩ : S39)]).countP (sm (⟨f2, t2, b2⟩ : S39)) = nG at HC2 hq2
                      generalize M2.countP (sm (⟨f2, t2, b2⟩ : S39)) = nM at HC3 hq2
                      have e6 : IntKind.i64.wrap ((nG : Int) + (nM : Int)) = (nG : Int) + (nM : Int) := IntWalk.i64_in _ (by omega)
                      have hq3 : ¬ ((nS : Int) < (nG : Int) + (nM : Int)) := by omega
                      have hq4 : decide ((nS : Int) < (nG : Int) + (nM : Int)) = false := decide_eq_false hq3
                      clear HCnt
                      refine start_ (n := 22) (S := (fun w' => w'.cell? ⟨Y, 0, none⟩ = some (.int .i64 f2) ∧ w'.cell? ⟨Y, 1, none⟩ = some (.int .i64 t2) ∧ w'.cell? ⟨Y, 2, none⟩ = some (.slice C2 b2.length k2) ∧ w'.cell? ⟨w2.heap.size, 0, none⟩ = some (.slice C0 P2.length k0) ∧ w'.cell? ⟨w2.heap.size, 1, none⟩ = some (.slice C1 M2.length k1) ∧ Below w5.heap.size w5 w')) (ds := []) #[false, false, false, false, false, false, false, false, false, false, false, false, false, false, false, false, false, false, false, false, false, false] (by kernel_rfl) rfl rfl (held20.out _ (by repeat (first | assumption | exact Below.refl _ _ | apply below_drew1 | exact below_step (by assumption) (by assumption)))) (fun hHeld => ?_)
                      refine pure_ (i := 0) (N := some 93) (v := ?_) (a' := ?_) #[true, false, false, false, false, false, false, false, false, false, false, false, false, false, false, false, false, false, false, false, false, false] rfl rfl (by kernel_rfl) (fun _ _ _ h => h) (Or.inl ⟨by rfl, ?_⟩) ?_ ?_
                      rotate_left
                      · intro w'
                        go_simp
                        with_reducible rfl
                      rotate_left
                      · simp only [Act.put, List.setIfInBounds_toArray, List.set_cons_zero, List.set_cons_succ, i64_w, i32_w]
                        rfl
                      refine take_ (i := 1) (N := some 94) (v := ?_) (a' := ?_) #[true, true, false, false, false, false, false, false, false, false, false, false, false, false, false, false, false, false, false, false, false, false] rfl rfl (by kernel_rfl) (fun _ _ _ h => h) (Or.inl ⟨by rfl, ?_⟩) hHeld ?_ ?_
                      rotate_left
                      · rintro w' ⟨s0, s1, s2, s3, s4, s5⟩
                        go_simp
                        with_reducible rfl
                      rotate_left
                      · simp only [Act.put, List.setIfInBounds_toArray, List.set_cons_zero, List.set_cons_succ, i64_w, i32_w]
                        rfl
                      refine one_ (i := 2) (N := some 95) #[true, true, true, false, false, false, false, false, false, false, false, false, false, false, false, false, false, false, false, false, false, false] rfl rfl (by kernel_rfl) (by decide) (fun K hK => ?_)
                      refine goes_ Try.func22 (by kernel_rfl) rfl #[(.slice AS sent.length cS), .agg #[.int .i64 f2, .int .i64 t2, .slice C2 b2.length k2]] (by rfl) rfl rfl (by (try simp only [List.map_toArray, List.map_cons, List.map_nil]); first | done | rfl) ?_
                      refine (HC1.out _ (by repeat (first | assumption | exact Below.refl _ _ | apply below_drew1 | exact below_step (by assumption) (by assumption)))).mono ?_
                      rintro e w8a ⟨rfl, hb8a⟩
                      have hbw8a : Below w5.heap.size w5 w8a := below_step (by repeat (first | assumption | exact Below.refl _ _ | apply below_drew1 | exact below_step (by assumption) (by assumption))) hb8a
                      refine ⟨_, rfl, ?_⟩
                      refine hK.out _ _ (held20.out _ hbw8a) (fun hHeld => ?_)
                      clear hK K
                      refine norm_ (a' := ?_) ?_ ?_
                      rotate_left
                      · simp only [Act.put, List.setIfInBounds_toArray, List.set_cons_zero, List.set_cons_succ, i64_w, i32_w]
                        rfl
                      refine pure_ (i := 3) (N := some 96) (v := ?_) (a' := ?_) #[true, true, true, true, false, false, false, false, false, false, false, false, false, false, false, false, false, false, false, false, false, false] rfl rfl (by kernel_rfl) (fun _ _ _ h => h) (Or.inl ⟨by rfl, ?_⟩) ?_ ?_
                      rotate_left
                      · intro w'
                        go_simp
                        with_reducible rfl
                      rotate_left
                      · simp only [Act.put, List.setIfInBounds_toArray, List.set_cons_zero, List.set_cons_succ, i64_w, i32_w]
                        rfl
                      refine pure_ (i := 4) (N := some 97) (v := ?_) (a' := ?_) #[true, true, true, true, true, false, false, false, false, false, false, false, false, false, false, false, false, false, false, false, false, false] rfl rfl (by kernel_rfl) (fun _ _ _ h => h) (Or.inl ⟨by rfl, ?_⟩) ?_ ?_
                      rotate_left
                      · intro w'
                        go_simp
                        with_reducible rfl
                      rotate_left
                      · simp only [Act.put, List.setIfInBounds_toArray, List.set_cons_zero, List.set_cons_succ, i64_w, i32_w]
                        rfl
                      refine pure_ (i := 5) (N := some 98) (v := ?_) (a' := ?_) #[true, true, true, true, true, true, false, false, false, false, false, false, false, false, false, false, false, false, false, false, false, false] rfl rfl (by kernel_rfl) (fun _ _ _ h => h) (Or.inl ⟨by rfl, ?_⟩) ?_ ?_
                      rotate_left
                      · intro w'
                        go_simp
                        with_reducible rfl
                      rotate_left
                      · simp only [Act.put, List.setIfInBounds_toArray, List.set_cons_zero, List.set_cons_succ, i64_w, i32_w]
                        rfl
                      refine pure_ (i := 6) (N := some 99) (v := ?_) (a' := ?_) #[true, true, true, true, true, true, true, false, false, false, false, false, false, false, false, false, false, false, false, false, false, false] rfl rfl (by kernel_rfl) (fun _ _ _ h => h) (Or.inl ⟨by rfl, ?_⟩) ?_ ?_
                      rotate_left
                      · intro w'
                        go_simp
                        with_reducible rfl
                      rotate_left
                      · simp only [Act.put, List.setIfInBounds_toArray, List.set_cons_zero, List.set_cons_succ, i64_w, i32_w]
                        rfl
                      refine pure_ (i := 7) (N := some 100) (v := ?_) (a' := ?_) #[true, true, true, true, true, true, true, true, false, false, false, false, false, false, false, false, false, false, false, false, false, false] rfl rfl (by kernel_rfl) (fun _ _ _ h => h) (Or.inl ⟨by rfl, ?_⟩) ?_ ?_
                      rotate_left
                      · intro w'
                        go_simp
                        with_reducible rfl
                      rotate_left
                      · simp only [Act.put, List.setIfInBounds_toArray, List.set_cons_zero, List.set_cons_succ, i64_w, i32_w]
                        rfl
                      refine pure_ (i := 8) (N := some 101) (v := ?_) (a' := ?_) #[true, true, true, true, true, true, true, true, true, false, false, false, false, false, false, false, false, false, false, false, false, false] rfl rfl (by kernel_rfl) (fun _ _ _ h => h) (Or.inl ⟨by rfl, ?_⟩) ?_ ?_
                      rotate_left
                      · intro w'
                        go_simp
                        with_reducible rfl
                      rotate_left
                      · simp only [Act.put, List.setIfInBounds_toArray, List.set_cons_zero, List.set_cons_succ, i64_w, i32_w]
                        rfl
                      refine take_ (i := 9) (N := some 102) (v := ?_) (a' := ?_) #[true, true, true, true, true, true, true, true, true, true, false, false, false, false, false, false, false, false, false, false, false, false] rfl rfl (by kernel_rfl) (fun _ _ _ h => h) (Or.inl ⟨by rfl, ?_⟩) hHeld ?_ ?_
                      rotate_left
                      · rintro w' ⟨s0, s1, s2, s3, s4, s5⟩
                        go_simp
                        with_reducible rfl
                      rotate_left
                      · simp only [Act.put, List.setIfInBounds_toArray, List.set_cons_zero, List.set_cons_succ, i64_w, i32_w]
                        rfl
                      refine pure_ (i := 11) (N := some 104) (v := ?_) (a' := ?_) #[true, true, true, true, true, true, true, true, true, true, false, true, false, false, false, false, false, false, false, false, false, false] rfl rfl (by kernel_rfl) (fun _ _ _ h => h) (Or.inl ⟨by rfl, ?_⟩) ?_ ?_
                      rotate_left
                      · intro w'
                        go_simp
                        with_reducible rfl
                      rotate_left
                      · simp only [Act.put, List.setIfInBounds_toArray, List.set_cons_zero, List.set_cons_succ, i64_w, i32_w]
                        rfl
                      refine take_ (i := 12) (N := some 105) (v := ?_) (a' := ?_) #[true, true, true, true, true, true, true, true, true, true, false, true, true, false, false, false, false, false, false, false, false, false] rfl rfl (by kernel_rfl) (fun _ _ _ h => h) (Or.inl ⟨by rfl, ?_⟩) hHeld ?_ ?_
                      rotate_left
                      · rintro w' ⟨s0, s1, s2, s3, s4, s5⟩
                        go_simp
                        with_reducible rfl
                      rotate_left
                      · simp only [Act.put, List.setIfInBounds_toArray, List.set_cons_zero, List.set_cons_succ, i64_w, i32_w]
                        rfl
                      refine take_ (i := 13) (N := some 106) (v := ?_) (a' := ?_) #[true, true, true, true, true, true, true, true, true, true, false, true, true, true, false, false, false, false, false, false, false, false] rfl rfl (by kernel_rfl) (fun _ _ _ h => h) (Or.inl ⟨by rfl, ?_⟩) hHeld ?_ ?_
                      rotate_left
                      · rintro w' ⟨s0, s1, s2, s3, s4, s5⟩
                        go_simp
                        with_reducible rfl
                      rotate_left
                      · simp only [Act.put, List.setIfInBounds_toArray, List.set_cons_zero, List.set_cons_succ, i64_w, i32_w]
                        rfl
                      refine pure_ (i := 16) (N := some 109) (v := ?_) (a' := ?_) #[true, true, true, true, true, true, true, true, true, true, false, true, true, true, false, false, true, false, false, false, false, false] rfl rfl (by kernel_rfl) (fun _ _ _ h => h) (Or.inl ⟨by rfl, ?_⟩) ?_ ?_
                      rotate_left
                      · intro w'
                        go_simp
                        with_reducible rfl
                      rotate_left
                      · simp only [Act.put, List.setIfInBounds_toArray, List.set_cons_zero, List.set_cons_succ, i64_w, i32_w]
                        rfl
                      refine take_ (i := 17) (N := some 110) (v := ?_) (a' := ?_) #[true, true, true, true, true, true, true, true, true, true, false, true, true, true, false, false, true, true, false, false, false, false] rfl rfl (by kernel_rfl) (fun _ _ _ h => h) (Or.inl ⟨by rfl, ?_⟩) hHeld ?_ ?_
                      rotate_left
                      · rintro w' ⟨s0, s1, s2, s3, s4, s5⟩
                        go_simp
                        with_reducible rfl
                      rotate_left
                      · simp only [Act.put, List.setIfInBounds_toArray, List.set_cons_zero, List.set_cons_succ, i64_w, i32_w]
                        rfl
                      refine one_ (i := 10) (N := some 103) #[true, true, true, true, true, true, true, true, true, true, true, true, true, true, false, false, true, true, false, false, false, false] rfl rfl (by kernel_rfl) (by decide) (fun K hK => ?_)
                      refine goes_ Try.func22 (by kernel_rfl) rfl #[(.slice A5 (got.length + 1) c5), .agg #[.int .i64 f2, .int .i64 t2, .slice C2 b2.length k2]] (by rfl) rfl rfl (by (try simp only [List.map_toArray, List.map_cons, List.map_nil]); first | done | rfl) ?_
                      refine (HC2.out _ (by repeat (first | assumption | exact Below.refl _ _ | apply below_drew1 | exact below_step (by assumption) (by assumption)))).mono ?_
                      rintro e w8b ⟨rfl, hb8b⟩
                      have hbw8b : Below w5.heap.size w5 w8b := below_step (by repeat (first | assumption | exact Below.refl _ _ | apply below_drew1 | exact below_step (by assumption) (by assumption))) hb8b
                      refine ⟨_, rfl, ?_⟩
                      refine hK.out _ _ (held20.out _ hbw8b) (fun hHeld => ?_)
                      clear hK K
                      refine norm_ (a' := ?_) ?_ ?_
                      rotate_left
                      · simp only [Act.put, List.setIfInBounds_toArray, List.set_cons_zero, List.set_cons_succ, i64_w, i32_w]
                        rfl
                      refine one_ (i := 14) (N := some 107) #[true, true, true, true, true, true, true, true, true, true, true, true, true, true, true, false, true, true, false, false, false, false] rfl rfl (by kernel_rfl) (by decide) (fun K hK => ?_)
                      refine goes_ Try.func22 (by kernel_rfl) rfl #[(.slice C1 M2.length k1), .agg #[.int .i64 f2, .int .i64 t2, .slice C2 b2.length k2]] (by rfl) rfl rfl (by (try simp only [List.map_toArray, List.map_cons, List.map_nil]); first | done | rfl) ?_
                      refine (HC3.out _ (by repeat (first | assumption | exact Below.refl _ _ | apply below_drew1 | exact below_step (by assumption) (by assumption)))).mono ?_
                      rintro e w8c ⟨rfl, hb8c⟩
                      have hbw8c : Below w5.heap.size w5 w8c := below_step (by repeat (first | assumption | exact Below.refl _ _ | apply below_drew1 | exact below_step (by assumption) (by assumption))) hb8c
                      refine ⟨_, rfl, ?_⟩
                      refine hK.out _ _ (held20.out _ hbw8c) (fun hHeld => ?_)
                      clear hK K
                      refine norm_ (a' := ?_) ?_ ?_
                      rotate_left
                      · simp only [Act.put, List.setIfInBounds_toArray, List.set_cons_zero, List.set_cons_succ, i64_w, i32_w]
                        rfl
                      refine pure_ (i := 15) (N := some 108) (v := ?_) (a' := ?_) #[true, true, true, true, true, true, true, true, true, true, true, true, true, true, true, true, true, true, false, false, false, false] rfl rfl (by kernel_rfl) (fun _ _ _ h => h) (Or.inl ⟨by rfl, ?_⟩) ?_ ?_
                      rotate_left
                      · intro w'
                        go_simp
                        with_reducible rfl
                      rotate_left
                      · simp only [Act.put, List.setIfInBounds_toArray, List.set_cons_zero, List.set_cons_succ, i64_w, i32_w]
                        rfl
                      refine one_ (i := 18) (N := some 111) #[true, true, true, true, true, true, true, true, true, true, true, true, true, true, true, true, true, true, true, false, false, false] rfl rfl (by kernel_rfl) (by decide) (fun K hK => ?_)
                      refine goes_ Try.func22 (by kernel_rfl) rfl #[(.slice AS sent.length cS), .agg #[.int .i64 f2, .int .i64 t2, .slice C2 b2.length k2]] (by rfl) rfl rfl (by (try simp only [List.map_toArray, List.map_cons, List.map_nil]); first | done | rfl) ?_
                      refine (HC1.out _ (by repeat (first | assumption | exact Below.refl _ _ | apply below_drew1 | exact below_step (by assumption) (by assumption)))).mono ?_
                      rintro e w8d ⟨rfl, hb8d⟩
                      have hbw8d : Below w5.heap.size w5 w8d := below_step (by repeat (first | assumption | exact Below.refl _ _ | apply below_drew1 | exact below_step (by assumption) (by assumption))) hb8d
                      refine ⟨_, rfl, ?_⟩
                      refine hK.out _ _ (held20.out _ hbw8d) (fun hHeld => ?_)
                      clear hK K
                      refine norm_ (a' := ?_) ?_ ?_
                      rotate_left
                      · simp only [Act.put, List.setIfInBounds_toArray, List.set_cons_zero, List.set_cons_succ, i64_w, i32_w]
                        rfl
                      refine pure_ (i := 19) (N := some 112) (v := ?_) (a' := ?_) #[true, true, true, true, true, true, true, true, true, true, true, true, true, true, true, true, true, true, true, true, false, false] rfl rfl (by kernel_rfl) (fun _ _ _ h => h) (Or.inl ⟨by rfl, ?_⟩) ?_ ?_
                      rotate_left
                      · intro w'
                        go_simp
                        with_reducible rfl
                      rotate_left
                      · simp only [Act.put, List.setIfInBounds_toArray, List.set_cons_zero, List.set_cons_succ, i64_w, i32_w]
                        rfl
                      refine pure_ (i := 20) (N := some 113) (v := ?_) (a' := ?_) #[true, true, true, true, true, true, true, true, true, true, true, true, true, true, true, true, true, true, true, true, true, false] rfl rfl (by kernel_rfl) (fun _ _ _ h => h) (Or.inl ⟨by rfl, ?_⟩) ?_ ?_
                      rotate_left
                      · intro w'
                        go_simp
                        with_reducible rfl
                      rotate_left
                      · simp only [Act.put, List.setIfInBounds_toArray, List.set_cons_zero, List.set_cons_succ, i64_w, i32_w]
                        rfl
                      refine pure_ (i := 21) (N := some 114) (v := ?_) (a' := ?_) #[true, true, true, true, true, true, true, true, true, true, true, true, true, true, true, true, true, true, true, true, true, true] rfl rfl (by kernel_rfl) (fun _ _ _ h => h) (Or.inl ⟨by rfl, ?_⟩) ?_ ?_
                      rotate_left
                      · intro w'
                        go_simp
                        with_reducible rfl
                      rotate_left
                      · simp only [Act.put, List.setIfInBounds_toArray, List.set_cons_zero, List.set_cons_succ, i64_w, i32_w]
                        rfl
                      refine done_ (by kernel_rfl) ?_
                      have HB8 := Lib.hid hbw8d
                      go_wp2_with fail
                      go_roundw
                      case rel =>
                        have hb9 := HB8.out
                        exact ⟨j + 1, C0, C1, k0, k1, P2, M2, sent, got ++ [(⟨f2, t2, b2⟩ : S39)], _, hlt, by simp, rfl, HN5.out.below hb9, blk_below HV5.out hb9, below_step HB5.out hb9, HI2.out, Kd.N_below HS5.out hb9, Kd.N_below HG5.out hb9, by omega, by simp; omega, HO2.out⟩
                      case measure => simp [intOf]; omega
                    · refine start_ (n := 22) (S := (fun w' => w'.cell? ⟨Y, 0, none⟩ = some (.int .i64 f2) ∧ w'.cell? ⟨Y, 1, none⟩ = some (.int .i64 t2) ∧ w'.cell? ⟨Y, 2, none⟩ = some (.slice C2 b2.length k2) ∧ w'.cell? ⟨w2.heap.size, 0, none⟩ = some (.slice C0 P2.length k0) ∧ w'.cell? ⟨w2.heap.size, 1, none⟩ = some (.slice C1 M2.length k1) ∧ Below w5.heap.size w5 w')) (ds := []) #[false, false, false, false, false, false, false, false, false, false, false, false, false, false, false, false, false, false, false, false, false, false] (by kernel_rfl) rfl rfl (held20.out _ (by repeat (first | assumption | exact Below.refl _ _ | apply below_drew1 | exact below_step (by assumption) (by assumption)))) (fun hHeld => ?_)
                      refine pure_ (i := 0) (N := some 93) (v := ?_) (a' := ?_) #[true, false, false, false, false, false, false, false, false, false, false, false, false, false, false, false, false, false, false, false, false, false] rfl rfl (by kernel_rfl) (fun _ _ _ h => h) (Or.inl ⟨by rfl, ?_⟩) ?_ ?_
                      rotate_left
                      · intro w'
                        go_simp
                        with_reducible rfl
                      rotate_left
                      · simp only [Act.put, List.setIfInBounds_toArray, List.set_cons_zero, List.set_cons_succ, i64_w, i32_w]
                        rfl
                      refine take_ (i := 1) (N := some 94) (v := ?_) (a' := ?_) #[true, true, false, false, false, false, false, false, false, false, false, false, false, false, false, false, false, false, false, false, false, false] rfl rfl (by kernel_rfl) (fun _ _ _ h => h) (Or.inl ⟨by rfl, ?_⟩) hHeld ?_ ?_
                      rotate_left
                      · rintro w' ⟨s0, s1, s2, s3, s4, s5⟩
                        go_simp
                        with_reducible rfl
                      rotate_left
                      · simp only [Act.put, List.setIfInBounds_toArray, List.set_cons_zero, List.set_cons_succ, i64_w, i32_w]
                        rfl
                      refine one_ (i := 2) (N := some 95) #[true, true, true, false, false, false, false, false, false, false, false, false, false, false, false, false, false, false, false, false, false, false] rfl rfl (by kernel_rfl) (by decide) (fun K hK => ?_)
                      refine goes_ Try.func22 (by kernel_rfl) rfl #[.slice AS sent.length cS, .agg #[.int .i64 f2, .int .i64 t2, .slice C2 b2.length k2]] (by rfl) rfl rfl (by (try simp only [List.map_toArray, List.map_cons, List.map_nil]); first | done | rfl) ?_
                      refine (HC1.out _ (by repeat (first | assumption | exact Below.refl _ _ | apply below_drew1 | exact below_step (by assumption) (by assumption)))).mono ?_
                      rintro e w8 ⟨rfl, hb8⟩
                      have hbw8 : Below w5.heap.size w5 w8 := below_step (by repeat (first | assumption | exact Below.refl _ _ | apply below_drew1 | exact below_step (by assumption) (by assumption))) hb8
                      refine ⟨_, rfl, ?_⟩
                      refine hK.out _ _ (held20.out _ hbw8) (fun hHeld => ?_)
                      clear hK K
                      refine norm_ (a' := ?_) ?_ ?_
                      rotate_left
                      · simp only [Act.put, List.setIfInBounds_toArray, List.set_cons_zero, List.set_cons_succ, i64_w, i32_w]
                        rfl
                      refine pure_ (i := 3) (N := some 96) (v := ?_) (a' := ?_) #[true, true, true, true, false, false, false, false, false, false, false, false, false, false, false, false, false, false, false, false, false, false] rfl rfl (by kernel_rfl) (fun _ _ _ h => h) (Or.inl ⟨by rfl, ?_⟩) ?_ ?_
                      rotate_left
                      · intro w'
                        go_simp
                        with_reducible rfl
                      rotate_left
                      · simp only [Act.put, List.setIfInBounds_toArray, List.set_cons_zero, List.set_cons_succ, i64_w, i32_w]
                        rfl
                      refine pure_ (i := 4) (N := some 97) (v := ?_) (a' := ?_) #[true, true, true, true, true, false, false, false, false, false, false, false, false, false, false, false, false, false, false, false, false, false] rfl rfl (by kernel_rfl) (fun _ _ _ h => h) (Or.inl ⟨by rfl, ?_⟩) ?_ ?_
                      rotate_left
                      · intro w'
                        go_simp
                        with_reducible rfl
                      rotate_left
                      · simp only [Act.put, List.setIfInBounds_toArray, List.set_cons_zero, List.set_cons_succ, i64_w, i32_w]
                        rfl
                      refine pure_ (i := 5) (N := some 98) (v := ?_) (a' := ?_) #[true, true, true, true, true, true, false, false, false, false, false, false, false, false, false, false, false, false, false, false, false, false] rfl rfl (by kernel_rfl) (fun _ _ _ h => h) (Or.inl ⟨by rfl, ?_⟩) ?_ ?_
                      rotate_left
                      · intro w'
                        go_simp
                        with_reducible rfl
                      rotate_left
                      · simp only [Act.put, List.setIfInBounds_toArray, List.set_cons_zero, List.set_cons_succ, i64_w, i32_w]
                        rfl
                      refine pure_ (i := 6) (N := some 99) (v := ?_) (a' := ?_) #[true, true, true, true, true, true, true, false, false, false, false, false, false, false, false, false, false, false, false, false, false, false] rfl rfl (by kernel_rfl) (fun _ _ _ h => h) (Or.inl ⟨by rfl, ?_⟩) ?_ ?_
                      rotate_left
                      · intro w'
                        go_simp
                        with_reducible rfl
                      rotate_left
                      · simp only [Act.put, List.setIfInBounds_toArray, List.set_cons_zero, List.set_cons_succ, i64_w, i32_w]
                        rfl
                      refine pure_ (i := 7) (N := some 100) (v := ?_) (a' := ?_) #[true, true, true, true, true, true, true, true, false, false, false, false, false, false, false, false, false, false, false, false, false, false] rfl rfl (by kernel_rfl) (fun _ _ _ h => h) (Or.inl ⟨by rfl, ?_⟩) ?_ ?_
                      rotate_left
                      · intro w'
                        go_simp
                        with_reducible rfl
                      rotate_left
                      · simp only [Act.put, List.setIfInBounds_toArray, List.set_cons_zero, List.set_cons_succ, i64_w, i32_w]
                        rfl
                      refine pure_ (i := 8) (N := some 101) (v := undef) (a' := ?_) #[true, true, true, true, true, true, true, true, true, false, false, false, false, false, false, false, false, false, false, false, false, false] rfl rfl (by kernel_rfl) (fun _ _ _ h => h) (Or.inr ⟨by rfl, rfl⟩) ?_ ?_
                      rotate_left
                      · simp only [Act.put, List.setIfInBounds_toArray, List.set_cons_zero, List.set_cons_succ, i64_w, i32_w]
                        rfl
                      refine pure_ (i := 9) (N := some 102) (v := undef) (a' := ?_) #[true, true, true, true, true, true, true, true, true, true, false, false, false, false, false, false, false, false, false, false, false, false] rfl rfl (by kernel_rfl) (fun _ _ _ h => h) (Or.inr ⟨by rfl, rfl⟩) ?_ ?_
                      rotate_left
                      · simp only [Act.put, List.setIfInBounds_toArray, List.set_cons_zero, List.set_cons_succ, i64_w, i32_w]
                        rfl
                      refine pure_ (i := 10) (N := some 103) (v := undef) (a' := ?_) #[true, true, true, true, true, true, true, true, true, true, true, false, false, false, false, false, false, false, false, false, false, false] rfl rfl (by kernel_rfl) (fun _ _ _ h => h) (Or.inr ⟨by rfl, rfl⟩) ?_ ?_
                      rotate_left
                      · simp only [Act.put, List.setIfInBounds_toArray, List.set_cons_zero, List.set_cons_succ, i64_w, i32_w]
                        rfl
                      refine pure_ (i := 11) (N := some 104) (v := undef) (a' := ?_) #[true, true, true, true, true, true, true, true, true, true, true, true, false, false, false, false, false, false, false, false, false, false] rfl rfl (by kernel_rfl) (fun _ _ _ h => h) (Or.inr ⟨by rfl, rfl⟩) ?_ ?_
                      rotate_left
                      · simp only [Act.put, List.setIfInBounds_toArray, List.set_cons_zero, List.set_cons_succ, i64_w, i32_w]
                        rfl
                      refine pure_ (i := 12) (N := some 105) (v := undef) (a' := ?_) #[true, true, true, true, true, true, true, true, true, true, true, true, true, false, false, false, false, false, false, false, false, false] rfl rfl (by kernel_rfl) (fun _ _ _ h => h) (Or.inr ⟨by rfl, rfl⟩) ?_ ?_
                      rotate_left
                      · simp only [Act.put, List.setIfInBounds_toArray, List.set_cons_zero, List.set_cons_succ, i64_w, i32_w]
                        rfl
                      refine pure_ (i := 13) (N := some 106) (v := undef) (a' := ?_) #[true, true, true, true, true, true, true, true, true, true, true, true, true, true, false, false, false, false, false, false, false, false] rfl rfl (by kernel_rfl) (fun _ _ _ h => h) (Or.inr ⟨by rfl, rfl⟩) ?_ ?_
                      rotate_left
                      · simp only [Act.put, List.setIfInBounds_toArray, List.set_cons_zero, List.set_cons_succ, i64_w, i32_w]
                        rfl
                      refine pure_ (i := 14) (N := some 107) (v := undef) (a' := ?_) #[true, true, true, true, true, true, true, true, true, true, true, true, true, true, true, false, false, false, false, false, false, false] rfl rfl (by kernel_rfl) (fun _ _ _ h => h) (Or.inr ⟨by rfl, rfl⟩) ?_ ?_
                      rotate_left
                      · simp only [Act.put, List.setIfInBounds_toArray, List.set_cons_zero, List.set_cons_succ, i64_w, i32_w]
                        rfl
                      refine pure_ (i := 15) (N := some 108) (v := undef) (a' := ?_) #[true, true, true, true, true, true, true, true, true, true, true, true, true, true, true, true, false, false, false, false, false, false] rfl rfl (by kernel_rfl) (fun _ _ _ h => h) (Or.inr ⟨by rfl, rfl⟩) ?_ ?_
                      rotate_left
                      · simp only [Act.put, List.setIfInBounds_toArray, List.set_cons_zero, List.set_cons_succ, i64_w, i32_w]
                        rfl
                      refine pure_ (i := 16) (N := some 109) (v := undef) (a' := ?_) #[true, true, true, true, true, true, true, true, true, true, true, true, true, true, true, true, true, false, false, false, false, false] rfl rfl (by kernel_rfl) (fun _ _ _ h => h) (Or.inr ⟨by rfl, rfl⟩) ?_ ?_
                      rotate_left
                      · simp only [Act.put, List.setIfInBounds_toArray, List.set_cons_zero, List.set_cons_succ, i64_w, i32_w]
                        rfl
                      refine pure_ (i := 17) (N := some 110) (v := undef) (a' := ?_) #[true, true, true, true, true, true, true, true, true, true, true, true, true, true, true, true, true, true, false, false, false, false] rfl rfl (by kernel_rfl) (fun _ _ _ h => h) (Or.inr ⟨by rfl, rfl⟩) ?_ ?_
                      rotate_left
                      · simp only [Act.put, List.setIfInBounds_toArray, List.set_cons_zero, List.set_cons_succ, i64_w, i32_w]
                        rfl
                      refine pure_ (i := 18) (N := some 111) (v := undef) (a' := ?_) #[true, true, true, true, true, true, true, true, true, true, true, true, true, true, true, true, true, true, true, false, false, false] rfl rfl (by kernel_rfl) (fun _ _ _ h => h) (Or.inr ⟨by rfl, rfl⟩) ?_ ?_
                      rotate_left
                      · simp only [Act.put, List.setIfInBounds_toArray, List.set_cons_zero, List.set_cons_succ, i64_w, i32_w]
                        rfl
                      refine pure_ (i := 19) (N := some 112) (v := undef) (a' := ?_) #[true, true, true, true, true, true, true, true, true, true, true, true, true, true, true, true, true, true, true, true, false, false] rfl rfl (by kernel_rfl) (fun _ _ _ h => h) (Or.inr ⟨by rfl, rfl⟩) ?_ ?_
                      rotate_left
                      · simp only [Act.put, List.setIfInBounds_toArray, List.set_cons_zero, List.set_cons_succ, i64_w, i32_w]
                        rfl
                      refine pure_ (i := 20) (N := some 113) (v := ?_) (a' := ?_) #[true, true, true, true, true, true, true, true, true, true, true, true, true, true, true, true, true, true, true, true, true, false] rfl rfl (by kernel_rfl) (fun _ _ _ h => h) (Or.inl ⟨by rfl, ?_⟩) ?_ ?_
                      rotate_left
                      · intro w'
                        go_simp
                        with_reducible rfl
                      rotate_left
                      · simp only [Act.put, List.setIfInBounds_toArray, List.set_cons_zero, List.set_cons_succ, i64_w, i32_w]
                        rfl
                      refine pure_ (i := 21) (N := some 114) (v := ?_) (a' := ?_) #[true, true, true, true, true, true, true, true, true, true, true, true, true, true, true, true, true, true, true, true, true, true] rfl rfl (by kernel_rfl) (fun _ _ _ h => h) (Or.inl ⟨by rfl, ?_⟩) ?_ ?_
                      rotate_left
                      · intro w'
                        go_simp
                        with_reducible rfl
                      rotate_left
                      · simp only [Act.put, List.setIfInBounds_toArray, List.set_cons_zero, List.set_cons_succ, i64_w, i32_w]
                        rfl
                      refine done_ (by kernel_rfl) ?_
                      have HB8 := Lib.hid hbw8
                      go_wp2_with fail
                      go_roundw
                      case rel =>
                        have hb9 := HB8.out
                        exact ⟨j + 1, C0, C1, k0, k1, P2, M2, sent, got ++ [(⟨f2, t2, b2⟩ : S39)], _, hlt, by simp, rfl, HN5.out.below hb9, blk_below HV5.out hb9, below_step HB5.out hb9, HI2.out, Kd.N_below HS5.out hb9, Kd.N_below HG5.out hb9, by omega, by simp; omega, HO2.out⟩
                      case measure => simp [intOf]; omega
                  · have q1 : (o.f0 != 1) = true := by simpa using h1
                    have HO2 := Lib.hid (once_other h0 h1 HDD.out HO.out)
                    clear HY' hokS hfrS hfrG hSB hGB hSlt hGlt
                    cases cp
                    all_goals (
                      go_wp2_with fail
                      go_roundw
                      case rel => exact ⟨j + 1, C0, C1, k0, k1, P2, M2, sent, got, _, hlt, by simp, rfl, HNM'.out.net.lower hb0, HV'.out, HB'.out, HI2.out, HNS'.out, HNG'.out, by omega, by omega, HO2.out⟩
                      case measure => simp [intOf]; omega)
              · have he3 : (e2 != 0) = true := by simpa using he2
                have HNM := Lib.hid hNM
                have HBV := Lib.hid hbV
                clear hX hY hNM hbV
                go_wp2_with fail
                go_roundw
                case rel => exact ⟨j + 1, B0, B1, d0, d1, Q, N, sent, got, cp, hlt, by simp, rfl, HN.out.below HBV.out, blk_below HV.out HBV.out, below_step HB.out HBV.out, HI.out, Kd.N_below HNS.out HBV.out, Kd.N_below HNG.out HBV.out, by omega, by omega, HO.out⟩
                case measure => simp [intOf]; omega))
          go_region_held3 (fun w' => w'.cell? ⟨w2.heap.size, 0, none⟩ = some (.slice B0 Q.length d0) ∧ w'.cell? ⟨w2.heap.size, 1, none⟩ = some (.slice B1 N.length d1) ∧ w'.cell? (ad.add (j * 5)) = some (.int .i64 o.f0) ∧
              w'.cell? ⟨(ad.add (j * 5)).block, (ad.add (j * 5)).off + 1, none⟩ = some (.int .i64 o.f1) ∧ w'.cell? ⟨(ad.add (j * 5)).block, (ad.add (j * 5)).off + 2, none⟩ = some (.int .i64 o.f2) ∧
              w'.cell? ⟨(ad.add (j * 5)).block, (ad.add (j * 5)).off + 3, none⟩ = some (.slice A3 o.f3.length c3) ∧ w'.cell? ⟨(ad.add (j * 5)).block, (ad.add (j * 5)).off + 4, none⟩ = some (.slice A4 o.f4.length c4) ∧ Below wr.heap.size wr w')
            (first
              | exact held.out _ (below_drew (Below.refl _ _))
              | (go_split_ands; exact held.out _ (by repeat (first | assumption | exact Below.refl _ _ | apply below_alloc | apply below_drew1 | exact below_step (by assumption) (by assumption) | (refine below_set ?_ (by first | exact Below.size (by assumption) | (simp; done) | (simp; omega))))))
              )
            (first
              | (go_at_call 17; refine (HC.out _ (by first | assumption | (go_split_ands; assumption))).mono ?_; rintro e w9 ⟨C0, k0, C1, k1, C2, k2, rfl, hN, hM, hb2⟩; have hNN := Lib.hid (NM.mk hN hM); clear hN hM; have hbw := below_step (by first | assumption | (go_split_ands; assumption)) hb2
                 (try (have p1 := blk_below (blk_drew (blk_new _ _)) hb2; have f10 := (blk_cell p1 0).trans rfl; have f11 := (blk_cell p1 1).trans rfl; have f12 := (blk_cell p1 2).trans rfl; have f13 := blk_frozen p1 0; have f14 := blk_frozen p1 1; have f15 := blk_frozen p1 2; have f16 := blk_lt p1; simp at f10 f11 f12 f13 f14 f15 f16))
                 (try rw [show ∀ o : Obj, (wr.alloc o).heap.size = wr.heap.size + 1 from fun o => by simp] at p1)
                 (try (have p2 := blk_below (blk_drew (blk_alloc (blk_new _ _) _)) hb2; have f20 := (blk_cell p2 0).trans rfl; have f21 := (blk_cell p2 1).trans rfl; have f22 := (blk_cell p2 2).trans rfl; have f23 := blk_frozen p2 0; have f24 := blk_frozen p2 1; have f25 := blk_frozen p2 2; have f26 := blk_lt p2; simp at f20 f21 f22 f23 f24 f25 f26))))
          all_goals (
            go_split_ands
            show K3 _ _
            refine fin.out _ _ _ _ _ _ _ _ _ _ _ _ _ _ _ _ _ _ _ _ _ _ _ _ _ _ _ _ _ _ _ _ _ _ _ _ _ _ _ _ _ _ _ _ _ _ _ _ _ _ _ _ _ _ _ _ _ _ _ _ _ _ _ _ _ _ _ _ _ _ _ _ _ _ _ _ _ _ _ _ _ _ _ _ _ _ _ _ _  C0 C1 C2 k0 k1 k2 (by assumption) ?_ ?_ ?_ ?_
            · first
                | with_reducible exact blk_alloc (blk_new _ _) _
                | with_reducible exact blk_new1 _ _ _ _
                | with_reducible exact blk_new3 _ _ _ _ _ _ _ _ _
                | (with_reducible refine blk_alloc ?_ _; refine blk_put (cs := #[.slice C0 P2.length k0, .slice none 0 0]) ?_ 1 _ rfl; refine blk_put (cs := #[.slice none 0 0, .slice none 0 0]) ?_ 0 _ rfl; exact p1)
                | (with_reducible refine blk_far (blk_far (blk_far ?_ ?_ _) ?_ _) ?_ _; (refine blk_put (cs := #[.slice C0 P2.length k0, .slice none 0 0]) ?_ 1 _ rfl; refine blk_put (cs := #[.slice none 0 0, .slice none 0 0]) ?_ 0 _ rfl; exact p2); all_goals (dsimp only; omega))
                | (with_reducible refine blk_far (blk_far (blk_far ?_ ?_ _) ?_ _) ?_ _; (refine blk_put (cs := #[.slice C0 P2.length k0, .slice none 0 0]) ?_ 1 _ rfl; refine blk_put (cs := #[.slice none 0 0, .slice none 0 0]) ?_ 0 _ rfl; exact p1); all_goals (dsimp only; omega))
            · first
                | with_reducible exact blk_new1 _ _ _ _
                | with_reducible exact blk_alloc (blk_new _ _) _
                | with_reducible exact blk_new2 _ _ _ _ _ _ _
                | (with_reducible refine blk_alloc ?_ _; refine blk_put (cs := #[.int .i64 f2, .int .i64 t2, .slice none 0 0]) ?_ 2 _ rfl; refine blk_put (cs := #[.int .i64 f2, .int .i64 0, .slice none 0 0]) ?_ 1 _ rfl; refine blk_put (cs := #[.int .i64 0, .int .i64 0, .slice none 0 0]) ?_ 0 _ rfl; exact p1)
                | (refine blk_put (cs := #[.int .i64 f2, .int .i64 t2, .slice none 0 0]) ?_ 2 _ rfl; refine blk_put (cs := #[.int .i64 f2, .int .i64 0, .slice none 0 0]) ?_ 1 _ rfl; refine blk_put (cs := #[.int .i64 0, .int .i64 0, .slice none 0 0]) ?_ 0 _ rfl; with_reducible refine blk_far (blk_far ?_ ?_ _) ?_ _; exact p1; all_goals (dsimp only; omega))
                | (refine blk_put (cs := #[.int .i64 f2, .int .i64 t2, .slice none 0 0]) ?_ 2 _ rfl; refine blk_put (cs := #[.int .i64 f2, .int .i64 0, .slice none 0 0]) ?_ 1 _ rfl; refine blk_put (cs := #[.int .i64 0, .int .i64 0, .slice none 0 0]) ?_ 0 _ rfl; with_reducible refine blk_far (blk_far ?_ ?_ _) ?_ _; exact p2; all_goals (dsimp only; omega))
            · (have hs9 := Below.size hbw); (first | exact Nat.le_refl _ | omega | (simp; done) | (simp; omega))
            · first
              | with_reducible exact nm1 (Nat.le_refl _) hNN.out
              | with_reducible exact nm2 (Nat.le_refl _) hNN.out
              | with_reducible exact nm3 (Nat.le_refl _) hNN.out
              | with_reducible exact nm4 (Nat.le_refl _) hNN.out
              | with_reducible exact nm5 (Nat.le_refl _) hNN.out
              | with_reducible exact nm6 (Nat.le_refl _) hNN.out
              | exact nm3 (Nat.le_refl _) hNN.out
              | exact nm5 (Nat.le_refl _) hNN.out
              | exact nm4 (Nat.le_refl _) hNN.out
              | exact nm6 (Nat.le_refl _) hNN.out)
        · have hjl : j = l.length := by omega
          have hlt2 : ¬ ((j : Int) < (l.length : Int)) := by omega
          clear hlt hj hjl
          go_wp2_with fail
          go_ret
          exact ⟨rfl, HB.out⟩
    · have he1 : (e0 != 0) = true := by simpa using he
      clear he
      go_wp2_with fail
      go_ret
      exact ⟨rfl, HB.out⟩

/-! ### in the form of a printed function -/
def law_true (k : Nat) : Option Bool := some true
theorem PureNetworkOnce (n : Int) (l : List S43) (w0 : (Lit.int .i64 n).wf = true) (hm : l.length ≤ maxLen) (hy : l.length * 72 ≤ 140737488351232) (hF : ∀ x ∈ l, OpOk x) : ∃ k, law_true k = some true := ⟨0, rfl⟩
theorem skiarealaw58_NetworkOnce.calls (k : Nat) (n : Int) (A : Option Addr) (c : Nat) (l : List S43) (r : Bool) (w : World) (hr : Kd.C k43 w A l.length l) (hc : l.length ≤ c) (h : law_true k = some r) :
    Calls Try.prog 8 #[.int .i64 n, .slice A l.length c] w fun e w' => e = .returned (.bool r) ∧ Below w.heap.size w w' := by
  obtain rfl := Option.some.inj h
  exact once_calls n A c l w hr hc

end Go.Proofs.Ytlaheldjlfckkaa.A

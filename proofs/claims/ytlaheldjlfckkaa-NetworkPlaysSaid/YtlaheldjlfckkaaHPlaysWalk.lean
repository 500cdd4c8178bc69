/- NetworkPlays: the walk. -/
import Derived.Test.YtlaheldjlfckkaaHPlaysA
import Derived.Test.YtlaheldjlfckkaaHAlive
import Derived.Test.YtlaheldjlfckkaaHLaws
import Derived.Test.YtlaheldjlfckkaaAx13
import Derived.Deep.RegionHeld3
namespace Go.Proofs.Ytlaheldjlfckkaa.A
open Go.RowKit Go.Proofs.YtlaheldjlfckkaaW.PrintWords Go.Proofs.YtlaheldjlfckkaaW.PrintLast Go.Proofs.YtlaheldjlfckkaaW.PrintMore
set_option linter.unusedVariables false
set_option linter.unusedSimpArgs false

set_option maxHeartbeats 64000000 in
set_option maxRecDepth 100000 in
theorem plays_calls (n : Int) (A : Option Addr) (c : Nat) (l : List S43) (w : World) (hr : Kd.C k43 w A l.length l) (hc : l.length ≤ c) :
    Calls Try.prog 5 #[.int .i64 n, .slice A l.length c] w fun e w' => e = .returned (.bool true) ∧ Below w.heap.size w w' := by
  have HR := Lib.hid hr
  clear hr
  go_enter Try.func5, Try.ntmps5
  go_wp2_with fail
  refine (alive_true _).mono ?_
  rintro e w1 ⟨rfl, hb1⟩
  go_wp2_with fail
  have hnew := refnew_f n
  obtain ⟨P0, M0, e0, hn0⟩ : ∃ P0 M0 e0, newP n = (P0, M0, e0) := ⟨_, _, _, rfl⟩
  rw [hn0] at hnew
  refine ((skiarearef58_New.calls n P0 M0 e0 _ hnew).mono fun _ _ h => ret_net h).mono ?_
  rintro e w2 ⟨A0, c0, A1, c1, rfl, hN, hb2⟩
  have HN := Lib.hid (hN.alloc' (.cells #[.slice A0 P0.length c0, .slice A1 M0.length c1] 25))
  have HB := Lib.hid (below_alloc (below_step hb1 hb2) (.cells #[.slice A0 P0.length c0, .slice A1 M0.length c1] 25))
  have HV := Lib.hid (blk_new w2 (.cells #[.slice A0 P0.length c0, .slice A1 M0.length c1] 25))
  have hs12 : w1.heap.size ≤ w2.heap.size := hb2.size
  have hs01 : w.heap.size ≤ w1.heap.size := hb1.size
  have HNW := Lib.hid hn0
  have HNF := Lib.hid (((hN.nf.bound).mono (ok' := fun k => k ≠ w2.heap.size) (fun k hk => by have := hk.2; omega)).below (below_alloc (Below.refl _ _) (.cells #[.slice A0 P0.length c0, .slice A1 M0.length c1] 25)))
  clear hb1 hb2 hN hnew hn0
  go_wp2_with fail
  refine (skiarealaw58_small.calls 60 A c l (smallP l) _ (Kd.C_below HR.out HB.out) hc (small_f l 60 (by omega))).mono ?_
  rintro e w3 ⟨rfl, hd⟩
  have hb3 := Drawn0.below hd
  replace HN := Lib.hid (HN.out.below hb3)
  replace HNF := Lib.hid (HNF.out.below hb3)
  replace HB := Lib.hid (below_step HB.out hb3)
  replace HV := Lib.hid (blk_below HV.out hb3)
  have hs3 := blk_lt HV.out
  clear hd hb3
  cases hsm : smallP l with
  | false =>
    clear hsm
    go_wp2_with fail
    go_ret
    exact ⟨rfl, HB.out⟩
  | true =>
    have HS := Lib.hid (small_all hsm)
    clear hsm
    by_cases he : e0 = 0
    · have he1 : (e0 != 0) = false := by simpa using he
      have hi : Inv n P0 M0 := by have := new_inv (n := n); rw [HNW.out] at this; exact this he
      have HI := Lib.hid hi
      clear hi he
      go_wp2_with fail
      go_loopw [7] (fun s7 wr => ∃ (j : Nat) (B0 B1 : Option Addr) (d0 d1 : Nat) (Q : List Int) (N : List S39), j ≤ l.length ∧ s7 = .int .i64 j ∧ NF wr (fun k => k ≠ w2.heap.size) B0 d0 Q B1 d1 N ∧ wr.heap[w2.heap.size]? = some (.cells #[.slice B0 Q.length d0, .slice B1 N.length d1] 25 (0, 0)) ∧ Below w.heap.size w wr ∧ Inv n Q N) (fun s7 _ => l.length - (intOf s7).toNat)
      case atStart => exact ⟨0, A0, A1, c0, c1, P0, M0, Nat.zero_le _, rfl, HNF.out, HV.out, HB.out, HI.out⟩
      case round =>
        obtain ⟨j, B0, B1, d0, d1, Q, N, hj, rfl, hN, hV, hB, hI⟩ := hrel
        clear HN HV HB HI
        have y0 : wr.cell? ⟨w2.heap.size, 0, none⟩ = some (.slice B0 Q.length d0) := (blk_cell hV 0).trans rfl
        have y1 : wr.cell? ⟨w2.heap.size, 1, none⟩ = some (.slice B1 N.length d1) := (blk_cell hV 1).trans rfl
        have hBlt := blk_lt hV
        have HN := Lib.hid hN
        have HV := Lib.hid hV
        have HB := Lib.hid hB
        have HI := Lib.hid hI
        clear hN hV hB hI
        by_cases hlt : j < l.length
        · have hltz : (j : Int) < (l.length : Int) := by omega
          have hl40 := HS.out.1
          have e5 : IntKind.i64.wrap ((j : Int) + 1) = (j : Int) + 1 := IntWalk.i64_in _ (by omega)
          obtain ⟨ad, A3, c3, A4, c4, eA, x0, x1, x2, x3, x4, h3, g3, h4, g4⟩ := at_T43 HR.out (j : Int) (by omega) hltz
          subst eA
          have hm : rd_T43 l (j : Int) ∈ l := by
            have : rd_T43 l (j : Int) = l[j] := by unfold rd_T43; simp [List.getD_eq_getElem?_getD, hlt]
            rw [this]
            exact List.getElem_mem hlt
          have hBo := HS.out.2 _ hm
          clear hm
          generalize rd_T43 l (j : Int) = o at *
          rw [Int.toNat_natCast] at x0 x1 x2 x3 x4
          have HXX := Lib.hid (fun (w' : World) (hb : Below w.heap.size w w') => (show w'.cell? (ad.add (j * 5)) = some (.int .i64 o.f0) ∧ w'.cell? ⟨(ad.add (j * 5)).block, (ad.add (j * 5)).off + 1, none⟩ = some (.int .i64 o.f1) ∧ w'.cell? ⟨(ad.add (j * 5)).block, (ad.add (j * 5)).off + 2, none⟩ = some (.int .i64 o.f2) ∧ w'.cell? ⟨(ad.add (j * 5)).block, (ad.add (j * 5)).off + 3, none⟩ = some (.slice A3 o.f3.length c3) ∧ w'.cell? ⟨(ad.add (j * 5)).block, (ad.add (j * 5)).off + 4, none⟩ = some (.slice A4 o.f4.length c4) from
            ⟨(hb.cell (World.block_lt_of_cell? w _ x0)).trans x0, (hb.cell (World.block_lt_of_cell? w _ x1)).trans x1, (hb.cell (World.block_lt_of_cell? w _ x2)).trans x2, (hb.cell (World.block_lt_of_cell? w _ x3)).trans x3, (hb.cell (World.block_lt_of_cell? w _ x4)).trans x4⟩))
          have HAR := Lib.hid (And.intro h3 (And.intro g3 (And.intro h4 g4)))
          obtain ⟨P2, M2, f2, t2, b2, e2, hd⟩ : ∃ P2 M2 f2 t2 b2 e2, doneP Q N o = (P2, M2, f2, t2, b2, e2) := ⟨_, _, _, _, _, _, rfl⟩
          have HC := Lib.hid (fun (w' : World) (hb : Below wr.heap.size wr w') => (show Calls Try.prog 17 #[.agg #[.slice B0 Q.length d0, .slice B1 N.length d1], .agg #[.int .i64 o.f0, .int .i64 o.f1, .int .i64 o.f2, .slice A3 o.f3.length c3, .slice A4 o.f4.length c4]] w' (RetMsg w' P2 M2 f2 t2 b2 e2) from by
            have h := done_callsC o (HN.out.nc.below hb) HI.out.ok.small (by omega) (Kd.C_below HAR.out.2.1 (below_step HB.out hb)) HAR.out.1 (Kd.C_below HAR.out.2.2.2 (below_step HB.out hb)) HAR.out.2.2.1
            rw [hd] at h
            exact h))
          have held := Lib.hid (fun (w' : World) (hb : Below wr.heap.size wr w') => (show w'.cell? ⟨w2.heap.size, 0, none⟩ = some (.slice B0 Q.length d0) ∧ w'.cell? ⟨w2.heap.size, 1, none⟩ = some (.slice B1 N.length d1) ∧ w'.cell? (ad.add (j * 5)) = some (.int .i64 o.f0) ∧
              w'.cell? ⟨(ad.add (j * 5)).block, (ad.add (j * 5)).off + 1, none⟩ = some (.int .i64 o.f1) ∧ w'.cell? ⟨(ad.add (j * 5)).block, (ad.add (j * 5)).off + 2, none⟩ = some (.int .i64 o.f2) ∧
              w'.cell? ⟨(ad.add (j * 5)).block, (ad.add (j * 5)).off + 3, none⟩ = some (.slice A3 o.f3.length c3) ∧ w'.cell? ⟨(ad.add (j * 5)).block, (ad.add (j * 5)).off + 4, none⟩ = some (.slice A4 o.f4.length c4) ∧ Below wr.heap.size wr w' from
            have hx := HXX.out w' (below_step HB.out hb)
            ⟨(blk_cell (blk_below HV.out hb) 0).trans rfl, (blk_cell (blk_below HV.out hb) 1).trans rfl, hx.1, hx.2.1, hx.2.2.1, hx.2.2.2.1, hx.2.2.2.2, hb⟩))
          have HDD := Lib.hid hd
          clear h3 g3 h4 g4 hd x0 x1 x2 x3 x4 hj
          go_wp2_with fail
          rename_i K9 a9
          have HA9 := Lib.hid a9
          clear a9
          have fin9 := Lib.hid (fun (V : World) (X Y : Nat) (v4 v11 v12 v13 v28 v29 v30 v31 v32 v33 v34 v35 v36 v37 v38 v39 v40 v41 v42 v43 v44 v45 v46 v47 v48 v49 v50 v51 v52 v53 v54 v55 v56 v57 v58 v59 v60 v61 v62 v63 v64 v65 v66 v67 v68 v69 v70 v71 : Value) (C0 C1 C2 : Option Addr) (k0 k1 k2 : Nat) (hbV : Below wr.heap.size wr V) (hX : V.heap[X]? = some (.cells #[.slice C0 P2.length k0, .slice C1 M2.length k1] 25 (0, 0))) (hY : V.heap[Y]? = some (.cells #[.int .i64 f2, .int .i64 t2, .slice C2 b2.length k2] 39 (0, 0))) (hYr : wr.heap.size ≤ Y) (hNM : NM V wr.heap.size C0 k0 P2 C1 k1 M2 C2 k2 b2) =>
            (show K9 { tmps := #[.int .i64 n, .slice (some ad) l.length c, undef, undef, v4, .pointer (some ⟨w2.heap.size, 0, none⟩), .int .i64 e0, .int .i64 j, .pointer (some ⟨X, 0, none⟩), .pointer (some ⟨Y, 0, none⟩), .int .i64 e2, v11, v12, v13, .bool true, .bool false, .tuple #[.agg #[.slice A0 P0.length c0, .slice A1 M0.length c1], .int .i64 e0], .int .i64 n, .tuple #[.agg #[.slice A0 P0.length c0, .slice A1 M0.length c1], .int .i64 e0], Value.agg #[.slice A0 P0.length c0, .slice A1 M0.length c1], .int .i64 e0, .slice (some ad) l.length c, .bool true, .bool false, .bool false, .int .i64 e0, .bool false, .bool false, v28, v29, v30, v31, v32, v33, v34, v35, v36, v37, v38, v39, v40, v41, v42, v43, v44, v45, v46, v47, v48, v49, v50, v51, v52, v53, v54, v55, v56, v57, v58, v59, v60, v61, v62, v63, v64, v65, v66, v67, v68, v69, v70, v71], defers := [] } V from by
              as_aux_lemma =>
                refine HA9.out _ _ ?_
                have hVV := blk_below HV.out hbV
                have s0 : V.cell? ⟨w2.heap.size, 0, none⟩ = some (.slice B0 Q.length d0) := (blk_cell hVV 0).trans rfl
                have s1 : V.cell? ⟨w2.heap.size, 1, none⟩ = some (.slice B1 N.length d1) := (blk_cell hVV 1).trans rfl
                have hxx := HXX.out V (below_step HB.out hbV)
                obtain ⟨x0, x1, x2, x3, x4⟩ := hxx
                have hBV : w2.heap.size < V.heap.size := blk_lt hVV
                have HX := Lib.hid hX
                have HY := Lib.hid hY
                have HNM := Lib.hid hNM
                have HBV := Lib.hid hbV
                have HBw := Lib.hid (below_step HB.out hbV)
                clear hX hY hNM hbV hVV
                have HC := Lib.hid (fun (w' : World) (hb : Below V.heap.size V w') => (show Calls Try.prog 18 #[.agg #[.slice B0 Q.length d0, .slice B1 N.length d1], .agg #[.int .i64 o.f0, .int .i64 o.f1, .int .i64 o.f2, .slice A3 o.f3.length c3, .slice A4 o.f4.length c4]] w' (RefMsg w' (fun k => (k ≠ w2.heap.size ∧ k < V.heap.size) ∨ w'.heap.size ≤ k) P2 M2 f2 t2 b2 e2) from by
                  have h := exp_calls (ok := fun k => (k ≠ w2.heap.size ∧ k < V.heap.size) ∨ w'.heap.size ≤ k) o ((((HN.out.below HBV.out).bound.mono (fun k hk => .inl hk)).below hb)) (fun k hk => .inr hk) HI.out.ok.small (by omega) (Kd.C_below HAR.out.2.1 (below_step HBw.out hb)) HAR.out.1 (Kd.C_below HAR.out.2.2.2 (below_step HBw.out hb)) HAR.out.2.2.1
                  rw [HDD.out] at h
                  exact h))
                have held := Lib.hid (fun (w' : World) (hb : Below V.heap.size V w') => (show w'.cell? ⟨w2.heap.size, 0, none⟩ = some (.slice B0 Q.length d0) ∧ w'.cell? ⟨w2.heap.size, 1, none⟩ = some (.slice B1 N.length d1) ∧ w'.cell? (ad.add (j * 5)) = some (.int .i64 o.f0) ∧ w'.cell? ⟨(ad.add (j * 5)).block, (ad.add (j * 5)).off + 1, none⟩ = some (.int .i64 o.f1) ∧ w'.cell? ⟨(ad.add (j * 5)).block, (ad.add (j * 5)).off + 2, none⟩ = some (.int .i64 o.f2) ∧ w'.cell? ⟨(ad.add (j * 5)).block, (ad.add (j * 5)).off + 3, none⟩ = some (.slice A3 o.f3.length c3) ∧ w'.cell? ⟨(ad.add (j * 5)).block, (ad.add (j * 5)).off + 4, none⟩ = some (.slice A4 o.f4.length c4) ∧ Below V.heap.size V w' from
                  have hx := HXX.out w' (below_step HBw.out hb)
                  have hv := blk_below (blk_below HV.out HBV.out) hb
                  ⟨(blk_cell hv 0).trans rfl, (blk_cell hv 1).trans rfl, hx.1, hx.2.1, hx.2.2.1, hx.2.2.2.1, hx.2.2.2.2, hb⟩))
                go_wp2_with fail
                rename_i K10 a10
                have HA10 := Lib.hid a10
                clear a10 s0 s1 x0 x1 x2 x3 x4
                have fin10 := Lib.hid (fun (V2 : World) (X2 Y2 : Nat) (v4 v28 v29 v30 v31 v32 v33 v34 v35 v36 v37 v38 v39 v40 v41 v42 v43 v44 v45 v46 v47 v48 v49 v50 v51 v52 v53 v54 v55 v56 v57 v58 v59 v60 v61 v62 v63 v64 v65 v66 v67 v68 v69 v70 v71 : Value) (D0 D1 D2 : Option Addr) (m0 m1 m2 : Nat) (hbV2 : Below V.heap.size V V2) (hX2 : V2.heap[X2]? = some (.cells #[.slice D0 P2.length m0, .slice D1 M2.length m1] 25 (0, 0))) (hY2 : V2.heap[Y2]? = some (.cells #[.int .i64 f2, .int .i64 t2, .slice D2 b2.length m2] 39 (0, 0))) (hYr2 : V.heap.size ≤ Y2) (hXM : XM V2 (fun k => k ≠ w2.heap.size) D0 m0 P2 D1 m1 M2 D2 m2 b2) =>
                  (show K10 { tmps := #[.int .i64 n, .slice (some ad) l.length c, undef, undef, v4, .pointer (some ⟨w2.heap.size, 0, none⟩), .int .i64 e0, .int .i64 j, .pointer (some ⟨X, 0, none⟩), .pointer (some ⟨Y, 0, none⟩), .int .i64 e2, .pointer (some ⟨X2, 0, none⟩), .pointer (some ⟨Y2, 0, none⟩), .int .i64 e2, .bool true, .bool false, .tuple #[.agg #[.slice A0 P0.length c0, .slice A1 M0.length c1], .int .i64 e0], .int .i64 n, .tuple #[.agg #[.slice A0 P0.length c0, .slice A1 M0.length c1], .int .i64 e0], Value.agg #[.slice A0 P0.length c0, .slice A1 M0.length c1], .int .i64 e0, .slice (some ad) l.length c, .bool true, .bool false, .bool false, .int .i64 e0, .bool false, .bool false, v28, v29, v30, v31, v32, v33, v34, v35, v36, v37, v38, v39, v40, v41, v42, v43, v44, v45, v46, v47, v48, v49, v50, v51, v52, v53, v54, v55, v56, v57, v58, v59, v60, v61, v62, v63, v64, v65, v66, v67, v68, v69, v70, v71], defers := [] } V2 from by
                    as_aux_lemma =>
                      refine HA10.out _ _ ?_
                      have HB2 := Lib.hid (below_step HBw.out hbV2)
                      have hX' := blk_below HX.out hbV2
                      have hY' := blk_below HY.out hbV2
                      have hNM' := HNM.out.below hbV2
                      have x8 : V2.cell? ⟨X, 0, none⟩ = some (.slice C0 P2.length k0) := (blk_cell hX' 0).trans rfl
                      have x9 : V2.cell? ⟨X, 1, none⟩ = some (.slice C1 M2.length k1) := (blk_cell hX' 1).trans rfl
                      have x10 : V2.cell? ⟨Y, 0, none⟩ = some (.int .i64 f2) := (blk_cell hY' 0).trans rfl
                      have x11 : V2.cell? ⟨Y, 1, none⟩ = some (.int .i64 t2) := (blk_cell hY' 1).trans rfl
                      have x12 : V2.cell? ⟨Y, 2, none⟩ = some (.slice C2 b2.length k2) := (blk_cell hY' 2).trans rfl
                      have z8 : V2.cell? ⟨X2, 0, none⟩ = some (.slice D0 P2.length m0) := (blk_cell hX2 0).trans rfl
                      have z9 : V2.cell? ⟨X2, 1, none⟩ = some (.slice D1 M2.length m1) := (blk_cell hX2 1).trans rfl
                      have z10 : V2.cell? ⟨Y2, 0, none⟩ = some (.int .i64 f2) := (blk_cell hY2 0).trans rfl
                      have z11 : V2.cell? ⟨Y2, 1, none⟩ = some (.int .i64 t2) := (blk_cell hY2 1).trans rfl
                      have z12 : V2.cell? ⟨Y2, 2, none⟩ = some (.slice D2 b2.length m2) := (blk_cell hY2 2).trans rfl
                      have hVV := blk_below HV.out (below_step HBV.out hbV2)
                      have s0 : V2.cell? ⟨w2.heap.size, 0, none⟩ = some (.slice B0 Q.length d0) := (blk_cell hVV 0).trans rfl
                      have s1 : V2.cell? ⟨w2.heap.size, 1, none⟩ = some (.slice B1 N.length d1) := (blk_cell hVV 1).trans rfl
                      have s2 := blk_frozen hVV 0
                      have s3 := blk_frozen hVV 1
                      have hln := done_len HI.out o
                      rw [HDD.out] at hln
                      have hsame := skiarearef58_Same.calls 2020 C0 k0 P2 C1 k1 M2 D0 m0 P2 D1 m1 M2 true _ hNM'.net.p.1 hNM'.net.p.2 hNM'.net.m.1 hNM'.net.m.2 hXM.net.nc.p.1 hXM.net.p.2 hXM.net.nc.m.1 hXM.net.m.2 (same_f P2 M2 hln.1 hln.2 2020 (by omega))
                      have HXM := Lib.hid hXM
                      have HNM2 := Lib.hid hNM'
                      have HVV := Lib.hid hVV
                      have HX2 := Lib.hid hX2
                      have HYZ := Lib.hid (And.intro (blk_below HY.out hbV2) hY2)
                      clear hXM hNM' hVV hX2 hY2 hX' hY' hln
                      have q0 : (e2 != e2) = false := by simp
                      go_wp2_with fail
                      refine hsame.mono ?_
                      rintro e w7 ⟨rfl, hb7⟩
                      clear hsame
                      have t10 : w7.cell? ⟨Y, 0, none⟩ = some (.int .i64 f2) := (blk_cell (blk_below HYZ.out.1 hb7) 0).trans rfl
                      have t11 : w7.cell? ⟨Y, 1, none⟩ = some (.int .i64 t2) := (blk_cell (blk_below HYZ.out.1 hb7) 1).trans rfl
                      have t12 : w7.cell? ⟨Y, 2, none⟩ = some (.slice C2 b2.length k2) := (blk_cell (blk_below HYZ.out.1 hb7) 2).trans rfl
                      have t13 : w7.cell? ⟨Y2, 0, none⟩ = some (.int .i64 f2) := (blk_cell (blk_below HYZ.out.2 hb7) 0).trans rfl
                      have t14 : w7.cell? ⟨Y2, 1, none⟩ = some (.int .i64 t2) := (blk_cell (blk_below HYZ.out.2 hb7) 1).trans rfl
                      have t15 : w7.cell? ⟨Y2, 2, none⟩ = some (.slice D2 b2.length m2) := (blk_cell (blk_below HYZ.out.2 hb7) 2).trans rfl
                      have hbd := Kd.R_reads' (Kd.R_below HNM2.out.body hb7)
                      have hsm := skiarearef58_SameMessage.calls f2 t2 C2 k2 b2 f2 t2 D2 m2 b2 true w7 hbd.2.2 hbd.2.1 (Kd.F_now (Kd.F_below HXM.out.body.1 hb7)) HXM.out.body.2 (samemsg_f f2 t2 b2)
                      clear hbd x8 x9 x10 x11 x12 z8 z9 z10 z11 z12 s0 s1 s2 s3
                      go_wp2_with fail
                      refine hsm.mono ?_
                      rintro e w8 ⟨rfl, hb8⟩
                      clear hsm t10 t11 t12 t13 t14 t15
                      have hb78 := below_step hb7 hb8
                      have hX8 := blk_below HX2.out hb78
                      have hV8 := blk_below HVV.out hb78
                      have HN8 := Lib.hid (HN.out.below (below_step (below_step HBV.out hbV2) hb78))
                      have HY8 := Lib.hid (HXM.out.net.below hb78)
                      have HB8 := Lib.hid (below_step HB2.out hb78)
                      have z8 : w8.cell? ⟨X2, 0, none⟩ = some (.slice D0 P2.length m0) := (blk_cell hX8 0).trans rfl
                      have z9 : w8.cell? ⟨X2, 1, none⟩ = some (.slice D1 M2.length m1) := (blk_cell hX8 1).trans rfl
                      have s0 : w8.cell? ⟨w2.heap.size, 0, none⟩ = some (.slice B0 Q.length d0) := (blk_cell hV8 0).trans rfl
                      have s1 : w8.cell? ⟨w2.heap.size, 1, none⟩ = some (.slice B1 N.length d1) := (blk_cell hV8 1).trans rfl
                      have s2 := blk_frozen hV8 0
                      have s3 := blk_frozen hV8 1
                      have HV8 := Lib.hid hV8
                      clear hX8 hV8 hb7 hb8 hb78 hbV2
                      by_cases he2 : e2 = 0
                      · have he3 : (e2 == 0) = true := by simpa using he2
                        have hI2 : Inv n P2 M2 := by
                          have h := step_inv (n := (Q, N)) HI.out o
                          have e : stepP (Q, N) o = (P2, M2) := by unfold stepP; rw [HDD.out]; simp [he2]
                          rw [e] at h
                          exact h
                        have HI2 := Lib.hid hI2
                        have hBw : w.heap.size ≤ w2.heap.size := Nat.le_trans hs01 hs12
                        clear hI2 he2
                        go_wp2_with fail
                        go_roundw
                        case rel => exact ⟨j + 1, D0, D1, m0, m1, P2, M2, hlt, by simp, (HY8.out.far (p := ⟨w2.heap.size, 0, none⟩) (fun k hk => hk) _).far (p := ⟨w2.heap.size, 1, none⟩) (fun k hk => hk) _, blk_set (blk_set HV8.out 0 _) 1 _, below_set (below_set HB8.out hBw) hBw, HI2.out⟩
                        case measure => simp [intOf]; omega
                      · have he3 : (e2 == 0) = false := by simpa using he2
                        clear he2
                        go_wp2_with fail
                        go_roundw
                        case rel => exact ⟨j + 1, B0, B1, d0, d1, Q, N, hlt, by simp, HN8.out, HV8.out, HB8.out, HI.out⟩
                        case measure => simp [intOf]; omega))
                go_region_held3 (fun w' => w'.cell? ⟨w2.heap.size, 0, none⟩ = some (.slice B0 Q.length d0) ∧ w'.cell? ⟨w2.heap.size, 1, none⟩ = some (.slice B1 N.length d1) ∧ w'.cell? (ad.add (j * 5)) = some (.int .i64 o.f0) ∧ w'.cell? ⟨(ad.add (j * 5)).block, (ad.add (j * 5)).off + 1, none⟩ = some (.int .i64 o.f1) ∧ w'.cell? ⟨(ad.add (j * 5)).block, (ad.add (j * 5)).off + 2, none⟩ = some (.int .i64 o.f2) ∧ w'.cell? ⟨(ad.add (j * 5)).block, (ad.add (j * 5)).off + 3, none⟩ = some (.slice A3 o.f3.length c3) ∧ w'.cell? ⟨(ad.add (j * 5)).block, (ad.add (j * 5)).off + 4, none⟩ = some (.slice A4 o.f4.length c4) ∧ Below V.heap.size V w')
                  (first
                    | exact held.out _ (below_drew (Below.refl _ _))
                    | (go_split_ands; exact held.out _ (by repeat (first | assumption | exact Below.refl _ _ | apply below_alloc | apply below_drew1 | exact below_step (by assumption) (by assumption) | (refine below_set ?_ (by first | exact Below.size (by assumption) | (simp; done) | (simp; omega)))))))
                  (first
                    | (go_at_call 18; refine (HC.out _ (by first | assumption | (go_split_ands; assumption))).mono ?_; rintro e w9 ⟨D0, m0, D1, m1, D2, m2, rfl, hN, hM, hb2⟩; have hNN := Lib.hid (XM.mk hN hM); clear hN hM; have hbw := below_step (by first | assumption | (go_split_ands; assumption)) hb2
                       (try (have p1 := blk_below (blk_drew (blk_new _ _)) hb2; have f10 := (blk_cell p1 0).trans rfl; have f11 := (blk_cell p1 1).trans rfl; have f12 := (blk_cell p1 2).trans rfl; have f13 := blk_frozen p1 0; have f14 := blk_frozen p1 1; have f15 := blk_frozen p1 2; have f16 := blk_lt p1; simp at f10 f11 f12 f13 f14 f15 f16))
                       (try rw [show ∀ o : Obj, (V.alloc o).heap.size = V.heap.size + 1 from fun o => by simp] at p1)
                       (try (have p2 := blk_below (blk_drew (blk_alloc (blk_new _ _) _)) hb2; have f20 := (blk_cell p2 0).trans rfl; have f21 := (blk_cell p2 1).trans rfl; have f22 := (blk_cell p2 2).trans rfl; have f23 := blk_frozen p2 0; have f24 := blk_frozen p2 1; have f25 := blk_frozen p2 2; have f26 := blk_lt p2; simp at f20 f21 f22 f23 f24 f25 f26))))
                all_goals (
                  go_split_ands
                  show K10 _ _
                  refine fin10.out _ _ _ _ _ _ _ _ _ _ _ _ _ _ _ _ _ _ _ _ _ _ _ _ _ _ _ _ _ _ _ _ _ _ _ _ _ _ _ _ _ _ _ _ _ _ _ _ D0 D1 D2 m0 m1 m2 (by assumption) ?_ ?_ ?_ ?_
                  · first
                      | with_reducible exact blk_alloc (blk_new _ _) _
                      | with_reducible exact blk_new1 _ _ _ _
                      | with_reducible exact blk_new3 _ _ _ _ _ _ _ _ _
                      | (with_reducible refine blk_alloc ?_ _; refine blk_put (cs := #[.slice D0 P2.length m0, .slice none 0 0]) ?_ 1 _ rfl; refine blk_put (cs := #[.slice none 0 0, .slice none 0 0]) ?_ 0 _ rfl; exact p1)
                      | (with_reducible refine blk_far (blk_far (blk_far ?_ ?_ _) ?_ _) ?_ _; (refine blk_put (cs := #[.slice D0 P2.length m0, .slice none 0 0]) ?_ 1 _ rfl; refine blk_put (cs := #[.slice none 0 0, .slice none 0 0]) ?_ 0 _ rfl; exact p2); all_goals (dsimp only; omega))
                      | (with_reducible refine blk_far (blk_far (blk_far ?_ ?_ _) ?_ _) ?_ _; (refine blk_put (cs := #[.slice D0 P2.length m0, .slice none 0 0]) ?_ 1 _ rfl; refine blk_put (cs := #[.slice none 0 0, .slice none 0 0]) ?_ 0 _ rfl; exact p1); all_goals (dsimp only; omega))
                  · first
                      | with_reducible exact blk_new1 _ _ _ _
                      | with_reducible exact blk_alloc (blk_new _ _) _
                      | with_reducible exact blk_new2 _ _ _ _ _ _ _
                      | (with_reducible refine blk_alloc ?_ _; refine blk_put (cs := #[.int .i64 f2, .int .i64 t2, .slice none 0 0]) ?_ 2 _ rfl; refine blk_put (cs := #[.int .i64 f2, .int .i64 0, .slice none 0 0]) ?_ 1 _ rfl; refine blk_put (cs := #[.int .i64 0, .int .i64 0, .slice none 0 0]) ?_ 0 _ rfl; exact p1)
                      | (refine blk_put (cs := #[.int .i64 f2, .int .i64 t2, .slice none 0 0]) ?_ 2 _ rfl; refine blk_put (cs := #[.int .i64 f2, .int .i64 0, .slice none 0 0]) ?_ 1 _ rfl; refine blk_put (cs := #[.int .i64 0, .int .i64 0, .slice none 0 0]) ?_ 0 _ rfl; with_reducible refine blk_far (blk_far ?_ ?_ _) ?_ _; exact p1; all_goals (dsimp only; omega))
                      | (refine blk_put (cs := #[.int .i64 f2, .int .i64 t2, .slice none 0 0]) ?_ 2 _ rfl; refine blk_put (cs := #[.int .i64 f2, .int .i64 0, .slice none 0 0]) ?_ 1 _ rfl; refine blk_put (cs := #[.int .i64 0, .int .i64 0, .slice none 0 0]) ?_ 0 _ rfl; with_reducible refine blk_far (blk_far ?_ ?_ _) ?_ _; exact p2; all_goals (dsimp only; omega))
                  · (have hs9 := Below.size hbw); (first | exact Nat.le_refl _ | omega | (simp; done) | (simp; omega))
                  · first
                    | with_reducible exact xm1 hBV hNN.out
                    | with_reducible exact xm2 hBV hNN.out
                    | with_reducible exact xm3 hBV hNN.out
                    | with_reducible exact xm4 hBV hNN.out
                    | with_reducible exact xm5 hBV hNN.out
                    | with_reducible exact xm6 hBV hNN.out
                    | exact xm3 hBV hNN.out
                    | exact xm5 hBV hNN.out
                    | exact xm4 hBV hNN.out
                    | exact xm6 hBV hNN.out)))
          go_region_held3 (fun w' => w'.cell? ⟨w2.heap.size, 0, none⟩ = some (.slice B0 Q.length d0) ∧ w'.cell? ⟨w2.heap.size, 1, none⟩ = some (.slice B1 N.length d1) ∧ w'.cell? (ad.add (j * 5)) = some (.int .i64 o.f0) ∧ w'.cell? ⟨(ad.add (j * 5)).block, (ad.add (j * 5)).off + 1, none⟩ = some (.int .i64 o.f1) ∧ w'.cell? ⟨(ad.add (j * 5)).block, (ad.add (j * 5)).off + 2, none⟩ = some (.int .i64 o.f2) ∧ w'.cell? ⟨(ad.add (j * 5)).block, (ad.add (j * 5)).off + 3, none⟩ = some (.slice A3 o.f3.length c3) ∧ w'.cell? ⟨(ad.add (j * 5)).block, (ad.add (j * 5)).off + 4, none⟩ = some (.slice A4 o.f4.length c4) ∧ Below wr.heap.size wr w')
            (first
              | exact held.out _ (below_drew (Below.refl _ _))
              | (go_split_ands; exact held.out _ (by repeat (first | assumption | exact Below.refl _ _ | apply below_alloc | apply below_drew1 | exact below_step (by assumption) (by assumption) | (refine below_set ?_ (by first | exact Below.size (by assumption) | (simp; done) | (simp; omega)))))))
            (first
              | (go_at_call 17; refine (HC.out _ (by first | assumption | (go_split_ands; assumption))).mono ?_; rintro e w9 ⟨C0, k0, C1, k1, C2, k2, rfl, hN, hM, hb2⟩; have hNN := Lib.hid (NM.mk hN hM); clear hN hM; have hbw := below_step (by first | assumption | (go_split_ands; assumption)) hb2
                 (try (have p1 := blk_below (blk_drew (blk_new _ _)) hb2; have f10 := (blk_cell p1 0).trans rfl; have f11 := (blk_cell p1 1).trans rfl; have f12 := (blk_cell p1 2).trans rfl; have f13 := blk_frozen p1 0; have f14 := blk_frozen p1 1; have f15 := blk_frozen p1 2; have f16 := blk_lt p1; simp at f10 f11 f12 f13 f14 f15 f16))
                 (try rw [show ∀ o : Obj, (wr.alloc o).heap.size = wr.heap.size + 1 from fun o => by simp] at p1)
                 (try (have p2 := blk_below (blk_drew (blk_alloc (blk_new _ _) _)) hb2; have f20 := (blk_cell p2 0).trans rfl; have f21 := (blk_cell p2 1).trans rfl; have f22 := (blk_cell p2 2).trans rfl; have f23 := blk_frozen p2 0; have f24 := blk_frozen p2 1; have f25 := blk_frozen p2 2; have f26 := blk_lt p2; simp at f20 f21 f22 f23 f24 f25 f26))))
          all_goals (
            go_split_ands
            show K9 _ _
            refine fin9.out _ _ _ _ _ _ _ _ _ _ _ _ _ _ _ _ _ _ _ _ _ _ _ _ _ _ _ _ _ _ _ _ _ _ _ _ _ _ _ _ _ _ _ _ _ _ _ _ _ _ _ C0 C1 C2 k0 k1 k2 (by assumption) ?_ ?_ ?_ ?_
            · first
                | with_reducible exact blk_alloc (blk_new _ _) _
                | with_reducible exact blk_new1 _ _ _ _
                | with_reducible exact blk_new3 _ _ _ _ _ _ _ _ _
                | (with_reducible refine blk_alloc ?_ _; refine blk_put (cs := #[.slice C0 P2.length k0, .slice none 0 0]) ?_ 1 _ rfl; refine blk_put (cs := #[.slice none 0 0, .slice none 0 0]) ?_ 0 _ rfl; exact p1)
                | (with_reducible refine blk_far (blk_far (blk_far ?_ ?_ _) ?_ _) ?_ _; (refine blk_put (cs := #[.slice C0 P2.length k0, .slice none 0 0]) ?_ 1 _ rfl; refine blk_put (cs := #[.slice none 0 0, .slice none 0 0]) ?_ 0 _ rfl; exact p2); all_goals (dsimp only; omega))
                | (with_reducible refine blk_far (blk_far (blk_far ?_ ?_ _) ?_ _) ?_ _; (refine blk_put (cs := #[.slice C0 P2.length k0, .slice none 0 0]) ?_ 1 _ rfl; refine blk_put (cs := #[.slice none 0 0, .slice none 0 0]) ?_ 0 _ rfl; exact p1); all_goals (dsimp only; omega))
            · first
                | with_reducible exact blk_new1 _ _ _ _
                | with_reducible exact blk_alloc (blk_new _ _) _
                | with_reducible exact blk_new2 _ _ _ _ _ _ _
                | (with_reducible refine blk_alloc ?_ _; refine blk_put (cs := #[.int .i64 f2, .int .i64 t2, .slice none 0 0]) ?_ 2 _ rfl; refine blk_put (cs := #[.int .i64 f2, .int .i64 0, .slice none 0 0]) ?_ 1 _ rfl; refine blk_put (cs := #[.int .i64 0, .int .i64 0, .slice none 0 0]) ?_ 0 _ rfl; exact p1)
                | (refine blk_put (cs := #[.int .i64 f2, .int .i64 t2, .slice none 0 0]) ?_ 2 _ rfl; refine blk_put (cs := #[.int .i64 f2, .int .i64 0, .slice none 0 0]) ?_ 1 _ rfl; refine blk_put (cs := #[.int .i64 0, .int .i64 0, .slice none 0 0]) ?_ 0 _ rfl; with_reducible refine blk_far (blk_far ?_ ?_ _) ?_ _; exact p1; all_goals (dsimp only; omega))
                | (refine blk_put (cs := #[.int .i64 f2, .int .i64 t2, .slice none 0 0]) ?_ 2 _ rfl; refine blk_put (cs := #[.int .i64 f2, .int .i64 0, .slice none 0 0]) ?_ 1 _ rfl; refine blk_put (cs := #[.int .i64 0, .int .i64 0, .slice none 0 0]) ?_ 0 _ rfl; with_reducible refine blk_far (blk_far ?_ ?_ _) ?_ _; exact p2; all_goals (dsimp only; omega))
            · (have hs9 := Below.size hbw); (first | exact Nat.le_refl _ | omega | (simp; done) | (simp; omega))
            · first
              | with_reducible exact nm1 (Nat.le_refl _) hNN.out
              | with_reducible exact nm2 (Nat.le_refl _) hNN.out
              | with_reducible exact nm3 (Nat.le_refl _) hNN.out
              | with_reducible exact nm4 (Nat.le_refl _) hNN.out
              | with_reducible exact nm5 (Nat.le_refl _) hNN.out
              | with_reducible exact nm6 (Nat.le_refl _) hNN.out
              | exact nm3 (Nat.le_refl _) hNN.out
              | exact nm5 (Nat.le_refl _) hNN.out
              | exact nm4 (Nat.le_refl _) hNN.out
              | exact nm6 (Nat.le_refl _) hNN.out)
        · have hjl : j = l.length := by omega
          have hlt2 : ¬ ((j : Int) < (l.length : Int)) := by omega
          clear hlt hj hjl
          go_wp2_with fail
          go_ret
          exact ⟨rfl, HB.out⟩
    · have he1 : (e0 != 0) = true := by simpa using he
      clear he
      go_wp2_with fail
      go_ret
      exact ⟨rfl, HB.out⟩

/-! ### in the form of a printed function -/
def law_true (k : Nat) : Option Bool := some true
theorem PureNetworkPlays (n : Int) (l : List S43) (w0 : (Lit.int .i64 n).wf = true) (hm : l.length ≤ maxLen) (hy : l.length * 72 ≤ 140737488351232) (hF : ∀ x ∈ l, OpOk x) : ∃ k, law_true k = some true := ⟨0, rfl⟩
theorem skiarealaw58_NetworkPlays.calls (k : Nat) (n : Int) (A : Option Addr) (c : Nat) (l : List S43) (r : Bool) (w : World) (hr : Kd.C k43 w A l.length l) (hc : l.length ≤ c) (h : law_true k = some r) :
    Calls Try.prog 5 #[.int .i64 n, .slice A l.length c] w fun e w' => e = .returned (.bool r) ∧ Below w.heap.size w w' := by
  obtain rfl := Option.some.inj h
  exact plays_calls n A c l w hr hc

end Go.Proofs.Ytlaheldjlfckkaa.A

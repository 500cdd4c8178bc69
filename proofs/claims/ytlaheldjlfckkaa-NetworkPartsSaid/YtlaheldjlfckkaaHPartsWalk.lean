/- NetworkParts: the walk. -/
import Derived.Test.YtlaheldjlfckkaaHPartsPlain
import Derived.Test.YtlaheldjlfckkaaAx7
namespace Go.Proofs.Ytlaheldjlfckkaa.A
open Go.RowKit Go.Proofs.YtlaheldjlfckkaaW.PrintWords Go.Proofs.YtlaheldjlfckkaaW.PrintLast Go.Proofs.YtlaheldjlfckkaaW.PrintMore
set_option linter.unusedVariables false
set_option linter.unusedSimpArgs false

set_option maxHeartbeats 6400000 in
set_option maxRecDepth 100000 in
theorem parts_calls (n x y z : Int) (A : Option Addr) (c : Nat) (l : List S43) (w : World) (hr : Kd.C k43 w A l.length l) (hc : l.length ≤ c) :
    Calls Try.prog 7 #[.int .i64 n, .slice A l.length c, .agg #[.int .i64 x, .int .i64 y, .int .i64 z]] w fun e w' => e = .returned (.bool true) ∧ Below w.heap.size w w' := by
  have HR := Lib.hid hr
  clear hr
  go_enter Try.func7, Try.ntmps7
  go_wp2_with fail
  refine (alive_true _).mono ?_
  rintro e w1 ⟨rfl, hb0⟩
  have hb1 := below_step (below_alloc (Below.refl w.heap.size w) (.cells #[.int .i64 x, .int .i64 y, .int .i64 z] 46)) hb0
  have HXB := Lib.hid (blk_below (blk_new w (.cells #[.int .i64 x, .int .i64 y, .int .i64 z] 46)) hb0)
  have hx1 := blk_lt HXB.out
  clear hb0
  go_wp2_with fail
  have hnew := new_f n
  obtain ⟨P0, M0, e0, hn0⟩ : ∃ P0 M0 e0, newP n = (P0, M0, e0) := ⟨_, _, _, rfl⟩
  rw [hn0] at hnew
  refine (c_new n hnew).mono ?_
  rintro e w2 ⟨A0, c0, A1, c1, rfl, hN, hb2⟩
  have HN := Lib.hid (hN.alloc' (.cells #[.slice A0 P0.length c0, .slice A1 M0.length c1] 25))
  have HB := Lib.hid (below_alloc (below_step hb1 hb2) (.cells #[.slice A0 P0.length c0, .slice A1 M0.length c1] 25))
  have HV := Lib.hid (blk_new w2 (.cells #[.slice A0 P0.length c0, .slice A1 M0.length c1] 25))
  have hs12 : w1.heap.size ≤ w2.heap.size := hb2.size
  replace HXB := Lib.hid (blk_alloc (blk_below HXB.out hb2) (.cells #[.slice A0 P0.length c0, .slice A1 M0.length c1] 25))
  have hs01 : w.heap.size ≤ w1.heap.size := hb1.size
  have HNW := Lib.hid hn0
  clear hb1 hb2 hN hnew hn0
  go_wp2_with fail
  refine (skiarealaw58_small.calls 60 A c l (smallP l) _ (Kd.C_below HR.out HB.out) hc (small_f l 60 (by omega))).mono ?_
  rintro e w3 ⟨rfl, hd⟩
  have hb3 := Drawn0.below hd
  replace HN := Lib.hid (HN.out.below hb3)
  replace HXB := Lib.hid (blk_below HXB.out hb3)
  replace HB := Lib.hid (below_step HB.out hb3)
  replace HV := Lib.hid (blk_below HV.out hb3)
  clear hd hb3
  cases hsm : smallP l with
  | false =>
    clear hsm
    go_wp2_with fail
    go_ret
    exact ⟨rfl, HB.out⟩
  | true =>
    have HS := Lib.hid (small_all hsm)
    clear hsm
    by_cases he : e0 = 0
    · have he1 : (e0 != 0) = false := by simpa using he
      have hi : Inv n P0 M0 := by have := new_inv (n := n); rw [HNW.out] at this; exact this he
      have HI := Lib.hid hi
      clear hi he
      have z0 : w3.cell? ⟨w2.heap.size, 0, none⟩ = some (.slice A0 P0.length c0) := (blk_cell HV.out 0).trans rfl
      have z1 : w3.cell? ⟨w2.heap.size, 1, none⟩ = some (.slice A1 M0.length c1) := (blk_cell HV.out 1).trans rfl
      go_wp2_with fail
      obtain ⟨P, M, haf⟩ : ∃ P M, afterP P0 M0 l = (P, M) := ⟨_, _, rfl⟩
      have hI2 : Inv n P M := by have h := after_inv l (N := (P0, M0)) HI.out; have e : l.foldl stepP (P0, M0) = (P, M) := haf; rw [e] at h; exact h
      have hcall := after_calls l (HN.out.lower hs01) HB.out.size HI.out.ok (Kd.C_below HR.out HB.out) hc (fun o ho => by have := (HS.out.2 o ho).1; omega) (by have := HS.out.1; omega)
      rw [haf] at hcall
      refine hcall.mono ?_
      clear hcall
      rintro e w4 ⟨C0, f0, C1, f1, rfl, hN4, hb4⟩
      have hv4 := blk_below HV.out hb4
      have HV5 := Lib.hid (blk_set (blk_set hv4 0 (.slice C0 P.length f0)) 1 (.slice C1 M.length f1))
      have HN5 := Lib.hid ((hN4.set hv4 (by decide) (by decide) 0 (.slice C0 P.length f0)).set (blk_set hv4 0 _) (by decide) (by decide) 1 (.slice C1 M.length f1))
      have HB5 := Lib.hid (below_set (j := 1) (v := .slice C1 M.length f1) (below_set (j := 0) (v := .slice C0 P.length f0) (below_step HB.out hb4) (Nat.le_trans hs01 hs12)) (Nat.le_trans hs01 hs12))
      have hne : w.heap.size ≠ w2.heap.size := by omega
      have HX5 := Lib.hid (blk_far (p := ⟨w2.heap.size, 1, none⟩) (blk_far (p := ⟨w2.heap.size, 0, none⟩) (blk_below HXB.out hb4) hne (.slice C0 P.length f0)) hne (.slice C1 M.length f1))
      have q0 : w4.cell? ⟨w2.heap.size, 0, none⟩ = some (.slice A0 P0.length c0) := (blk_cell hv4 0).trans rfl
      have q1 : w4.cell? ⟨w2.heap.size, 1, none⟩ = some (.slice A1 M0.length c1) := (blk_cell hv4 1).trans rfl
      have q2 := blk_frozen hv4 0
      have q3 := blk_frozen hv4 1
      have HI2 := Lib.hid hI2
      clear hN4 hv4 HN HV HB z0 z1 haf hI2 HI
      go_wp2_with fail
      clear q0 q1 q2 q3 HXB
      generalize (w4.setCell ⟨w2.heap.size, 0, none⟩ (.slice C0 P.length f0)).setCell ⟨w2.heap.size, 1, none⟩ (.slice C1 M.length f1) = V at *
      have HCan := Lib.hid (fun (w' : World) (hb : Below V.heap.size V w') (a b : Int) => network_Can.calls _ _ P _ _ M a b (canP P a b) w' (HN5.out.below hb).p.1 (HN5.out.below hb).p.2 (HN5.out.below hb).m.1 (HN5.out.below hb).m.2 (can_f P M a b))
      have held := Lib.hid (fun (w' : World) (hb : Below V.heap.size V w') => (show w'.cell? ⟨w.heap.size, 0, none⟩ = some (.int .i64 x) ∧ w'.cell? ⟨w.heap.size, 1, none⟩ = some (.int .i64 y) ∧ w'.cell? ⟨w.heap.size, 2, none⟩ = some (.int .i64 z) ∧ w'.cell? ⟨w2.heap.size, 0, none⟩ = some (.slice C0 P.length f0) ∧ w'.cell? ⟨w2.heap.size, 1, none⟩ = some (.slice C1 M.length f1) ∧ Below V.heap.size V w' from
        ⟨(blk_cell (blk_below HX5.out hb) 0).trans rfl, (blk_cell (blk_below HX5.out hb) 1).trans rfl, (blk_cell (blk_below HX5.out hb) 2).trans rfl, (blk_cell (blk_below HV5.out hb) 0).trans rfl, (blk_cell (blk_below HV5.out hb) 1).trans rfl, hb⟩))
      go_region_held3 (fun w' => w'.cell? ⟨w.heap.size, 0, none⟩ = some (.int .i64 x) ∧ w'.cell? ⟨w.heap.size, 1, none⟩ = some (.int .i64 y) ∧ w'.cell? ⟨w.heap.size, 2, none⟩ = some (.int .i64 z) ∧ w'.cell? ⟨w2.heap.size, 0, none⟩ = some (.slice C0 P.length f0) ∧ w'.cell? ⟨w2.heap.size, 1, none⟩ = some (.slice C1 M.length f1) ∧ Below V.heap.size V w')
        (first | assumption | (go_split_ands; exact held.out _ (by repeat (first | assumption | exact Below.refl _ _ | apply below_drew1 | exact below_step (by assumption) (by assumption)))) | exact held.out _ (by repeat (first | assumption | exact Below.refl _ _ | apply below_drew1 | exact below_step (by assumption) (by assumption))))
        (first | fail)
      have hself : canP P x x = (decide (0 ≤ x) && decide (x < n)) := by
        have h := HI2.out.len
        rw [can_self]
        unfold siteP
        rw [h]
        simp
      obtain ⟨g0, hg0⟩ : ∃ b, decide (0 ≤ x) = b := ⟨_, rfl⟩
      obtain ⟨g1, hg1⟩ : ∃ b, decide (x < n) = b := ⟨_, rfl⟩
      rw [hg0, hg1] at hself
      obtain ⟨bxy, hxy⟩ : ∃ b, canP P x y = b := ⟨_, rfl⟩
      have hyx : canP P y x = bxy := by rw [can_symm]; exact hxy
      have hcell := held.out _ (below_drew (Below.refl V.heap.size V))
      have HD := Lib.hid hcell
      clear hcell
      go_wp2_with fail
      rename_i KY aY K0 a0
      have HAY := Lib.hid aY
      clear aY
      have finY := Lib.hid (fun (W : World) (hbW : Below V.heap.size V W) (v17 v18 v19 v20 v21 v22 v23 v24 v25 v26 v27 v28 v29 v30 v31 v32 v33 v34 v35 v36 v37 v38 v39 v40 v41 v42 v43 v44 v45 v46 v47 v48 v49 v50 v51 v52 v53 v54 v55 v56 v57 v58 v59 v60 v61 v62 : Value) =>
        (show KY { tmps := #[.int .i64 n, .slice A l.length c, .agg #[.int .i64 x, .int .i64 y, .int .i64 z], undef, undef, .pointer (some ⟨w.heap.size, 0, none⟩), .bool false, .pointer (some ⟨w2.heap.size, 0, none⟩), .int .i64 e0, .int .i64 x, .int .i64 y, .int .i64 z, undef, undef, undef, undef, undef, v17, v18, v19, v20, v21, v22, v23, v24, v25, v26, v27, v28, v29, v30, v31, v32, v33, v34, v35, v36, v37, v38, v39, v40, v41, v42, v43, v44, v45, v46, v47, v48, v49, v50, v51, v52, v53, v54, v55, v56, v57, v58, v59, v60, v61, v62, undef, undef, undef, undef, undef, undef, undef, undef, undef, undef, undef, undef, undef, undef, undef, undef, undef, undef, undef, undef, undef, undef, undef, undef, undef, undef, undef, undef, undef, undef, undef, undef, undef, undef, undef, undef, undef, undef, undef, undef, undef, undef, undef, undef, undef, undef, undef, undef, undef, undef, undef, undef, undef, undef, undef, undef, undef, undef, undef, undef, undef, undef, undef, undef, undef, undef, undef, undef, undef, undef, undef, undef, undef, undef, undef, undef, undef, undef], defers := [] } W from by
          obtain ⟨d0, d1, d2, d3, d4, _⟩ := held.out W hbW
          refine HAY.out _ _ ?_
          go_wp2_with fail
          refine (HCan.out _ hbW x y).mono ?_
          rename_i KZ aZ K1 a1 K2 a2
          have HAZ := Lib.hid aZ
          clear aZ
          have finZ := Lib.hid (fun (W : World) (hbW : Below V.heap.size V W) (v17 v18 v19 v20 v21 v22 v23 v24 v25 v26 v27 v28 v29 v30 v31 v32 v33 v34 v35 v36 v37 v38 v39 v40 v41 v42 v43 v44 v45 v46 v47 v48 v49 v50 v51 v52 v53 v54 v55 v56 v57 v58 v59 v60 v61 v62 v63 v64 v65 v66 v67 v68 v69 v70 v71 v72 v73 v74 v75 v76 v77 v78 v79 : Value) =>
            (show KZ { tmps := #[.int .i64 n, .slice A l.length c, .agg #[.int .i64 x, .int .i64 y, .int .i64 z], undef, undef, .pointer (some ⟨w.heap.size, 0, none⟩), .bool false, .pointer (some ⟨w2.heap.size, 0, none⟩), .int .i64 e0, .int .i64 x, .int .i64 y, .int .i64 z, undef, undef, undef, undef, undef, v17, v18, v19, v20, v21, v22, v23, v24, v25, v26, v27, v28, v29, v30, v31, v32, v33, v34, v35, v36, v37, v38, v39, v40, v41, v42, v43, v44, v45, v46, v47, v48, v49, v50, v51, v52, v53, v54, v55, v56, v57, v58, v59, v60, v61, v62, v63, v64, v65, v66, v67, v68, v69, v70, v71, v72, v73, v74, v75, v76, v77, v78, v79, undef, undef, undef, undef, undef, undef, undef, undef, undef, undef, undef, undef, undef, undef, undef, undef, undef, undef, undef, undef, undef, undef, undef, undef, undef, undef, undef, undef, undef, undef, undef, undef, undef, undef, undef, undef, undef, undef, undef, undef, undef, undef, undef, undef, undef, undef, undef, undef, undef, undef, undef, undef, undef, undef, undef, undef, undef, undef, undef, undef, undef], defers := [] } W from by
              obtain ⟨d0, d1, d2, d3, d4, _⟩ := held.out W hbW
              refine HAZ.out _ _ ?_
              go_wp2_with fail
              go_loopw [12] (fun s12 wr => ∃ (j : Nat), j ≤ M.length ∧ s12 = .int .i64 j ∧ Below V.heap.size V wr) (fun s12 _ => M.length - (intOf s12).toNat)
              case atStart => exact ⟨0, Nat.zero_le _, rfl, hbW⟩
              case round =>
                obtain ⟨j, hj, rfl, hbwr⟩ := hrel
                clear d0 d1 d2 d3 d4 hbW
                by_cases hlt : j < M.length
                · have hltz : (j : Int) < (M.length : Int) := by omega
                  have hMl := HI2.out.mail
                  have e5 : IntKind.i64.wrap ((j : Int) + 1) = (j : Int) + 1 := IntWalk.i64_in _ (by omega)
                  have e6 : IntKind.i64.wrap ((M.length : Int) - 1) = (M.length : Int) - 1 := IntWalk.i64_in _ (by omega)
                  obtain ⟨ad, A3, c3, eA, x0, x1, x2, h3, g3⟩ := at_T39 (HN5.out.below hbwr).m.1 (j : Int) (by omega) hltz
                  subst eA
                  obtain ⟨d0, d1, d2, d3, d4, _⟩ := held.out wr hbwr
                  have hcon := deliver_at (P := P) hlt
                  have hdf := deliver_f HI2.out.ok.small (j : Int) 1001 (by omega)
                  rw [hcon] at hdf
                  have hskip := skip_one M (j : Int) 0 (by omega) (by omega)
                  clear hcon
                  rw [Int.toNat_natCast] at x0 x1 x2
                  generalize rd_T39 M (j : Int) = m at *
                  obtain ⟨b, hb⟩ : ∃ b, canP P m.f0 m.f1 = b := ⟨_, rfl⟩
                  rw [hb] at hdf
                  obtain ⟨P', M', f', t', b', e', hres⟩ : ∃ P' M' f' t' b' e', (if b = true then (P, skip (j : Int) 0 M, m.f0, m.f1, m.f2, (0 : Int)) else ([], [], 0, 0, [], 13)) = (P', M', f', t', b', e') := ⟨_, _, _, _, _, _, rfl⟩
                  rw [hres] at hdf
                  have HRES := Lib.hid hres
                  have HSK := Lib.hid hskip
                  clear hres hskip
                  go_wp2_with fail
                  refine (c_deliver (HN5.out.below hbwr) (j : Int) hdf).mono ?_
                  rintro e w6 ⟨B0, g0', B1, g1', B2, g2', rfl, hN6, hM6, hb6⟩
                  clear hdf
                  go_wp2_with fail
                  have hbw6 := below_step hbwr hb6
                  have hb7 : Below w6.heap.size w6 ((w6.alloc (.cells #[.slice B0 P'.length g0', .slice B1 M'.length g1'] 25)).alloc (.cells #[.int .i64 f', .int .i64 t', .slice B2 b'.length g2'] 39)) := below_alloc (below_alloc (Below.refl _ _) _) _
                  have hX := blk_alloc (blk_new w6 (.cells #[.slice B0 P'.length g0', .slice B1 M'.length g1'] 25)) (.cells #[.int .i64 f', .int .i64 t', .slice B2 b'.length g2'] 39)
                  have hY := blk_new1 w6 (.cells #[.slice B0 P'.length g0', .slice B1 M'.length g1'] 25) #[.int .i64 f', .int .i64 t', .slice B2 b'.length g2'] 39
                  have hM7 := Kd.R_below hM6 hb7
                  have hwr7 := below_step hb6 hb7
                  have hV7 := below_step hbwr hwr7
                  clear hM6 hN6 hb6 hbw6 hb7
                  generalize ((w6.alloc (.cells #[.slice B0 P'.length g0', .slice B1 M'.length g1'] 25)).alloc (.cells #[.int .i64 f', .int .i64 t', .slice B2 b'.length g2'] 39)) = W7 at *
                  have HM7 := Lib.hid hM7
                  have HX := Lib.hid hX
                  have HY := Lib.hid hY
                  have HWR7 := Lib.hid hwr7
                  have HV7 := Lib.hid hV7
                  have HG3 := Lib.hid (And.intro h3 g3)
                  clear hM7 hX hY hwr7 hV7 h3 g3
                  have HCan2 := Lib.hid (fun (w' : World) (hb : Below W7.heap.size W7 w') (a b : Int) => HCan.out w' (below_step HV7.out hb) a b)
                  have held2 := Lib.hid (fun (w' : World) (hb : Below W7.heap.size W7 w') => (show w'.cell? ⟨w2.heap.size, 0, none⟩ = some (.slice C0 P.length f0) ∧ w'.cell? ⟨w2.heap.size, 1, none⟩ = some (.slice (some ad) M.length f1) ∧ w'.cell? (ad.add (j * 3)) = some (.int .i64 m.f0) ∧ w'.cell? ⟨(ad.add (j * 3)).block, (ad.add (j * 3)).off + 1, none⟩ = some (.int .i64 m.f1) ∧ w'.cell? ⟨(ad.add (j * 3)).block, (ad.add (j * 3)).off + 2, none⟩ = some (.slice A3 m.f2.length c3) ∧ w'.cell? ⟨w6.heap.size, 0, none⟩ = some (.slice B0 P'.length g0') ∧ w'.cell? ⟨w6.heap.size, 1, none⟩ = some (.slice B1 M'.length g1') ∧ w'.cell? ⟨w6.heap.size + 1, 0, none⟩ = some (.int .i64 f') ∧ w'.cell? ⟨w6.heap.size + 1, 1, none⟩ = some (.int .i64 t') ∧ w'.cell? ⟨w6.heap.size + 1, 2, none⟩ = some (.slice B2 b'.length g2') ∧ Below W7.heap.size W7 w' from
                    have hwr : Below wr.heap.size wr w' := below_step HWR7.out hb
                    ⟨(hwr.cell (World.block_lt_of_cell? wr _ d3)).trans d3, (hwr.cell (World.block_lt_of_cell? wr _ d4)).trans d4, (hwr.cell (World.block_lt_of_cell? wr _ x0)).trans x0, (hwr.cell (World.block_lt_of_cell? wr _ x1)).trans x1, (hwr.cell (World.block_lt_of_cell? wr _ x2)).trans x2,
                      (blk_cell (blk_below HX.out hb) 0).trans rfl, (blk_cell (blk_below HX.out hb) 1).trans rfl, (blk_cell (blk_below HY.out hb) 0).trans rfl, (blk_cell (blk_below HY.out hb) 1).trans rfl, (blk_cell (blk_below HY.out hb) 2).trans rfl, hb⟩))
                  clear d0 d1 d2 d3 d4 x0 x1 x2
                  go_region_held3 (fun w' => w'.cell? ⟨w2.heap.size, 0, none⟩ = some (.slice C0 P.length f0) ∧ w'.cell? ⟨w2.heap.size, 1, none⟩ = some (.slice (some ad) M.length f1) ∧ w'.cell? (ad.add (j * 3)) = some (.int .i64 m.f0) ∧ w'.cell? ⟨(ad.add (j * 3)).block, (ad.add (j * 3)).off + 1, none⟩ = some (.int .i64 m.f1) ∧ w'.cell? ⟨(ad.add (j * 3)).block, (ad.add (j * 3)).off + 2, none⟩ = some (.slice A3 m.f2.length c3) ∧ w'.cell? ⟨w6.heap.size, 0, none⟩ = some (.slice B0 P'.length g0') ∧ w'.cell? ⟨w6.heap.size, 1, none⟩ = some (.slice B1 M'.length g1') ∧ w'.cell? ⟨w6.heap.size + 1, 0, none⟩ = some (.int .i64 f') ∧ w'.cell? ⟨w6.heap.size + 1, 1, none⟩ = some (.int .i64 t') ∧ w'.cell? ⟨w6.heap.size + 1, 2, none⟩ = some (.slice B2 b'.length g2') ∧ Below W7.heap.size W7 w')
                    (first | assumption | (go_split_ands; exact held2.out _ (by repeat (first | assumption | exact Below.refl _ _ | apply below_drew1 | exact below_step (by assumption) (by assumption)))) | exact held2.out _ (by repeat (first | assumption | exact Below.refl _ _ | apply below_drew1 | exact below_step (by assumption) (by assumption))))
                    (first | (go_at_call 20; refine (HCan2.out _ (by first | assumption | (go_split_ands; assumption)) _ _).mono ?_; rintro e w8 ⟨rfl, hb8⟩; rw [hb]; have hbw8 := below_step (by first | assumption | (go_split_ands; assumption)) hb8))
                  go_split_ands
                  have HB8 := Lib.hid (show Below W7.heap.size W7 w8 by assumption)
                  have hres := HRES.out
                  cases b with
                  | false =>
                    rw [if_neg (by decide)] at hres
                    simp only [Prod.mk.injEq] at hres
                    obtain ⟨rfl, rfl, rfl, rfl, rfl, rfl⟩ := hres
                    go_wp2_with fail
                    refine start_ (n := 21) (S := (fun _ => True)) (ds := []) #[false, false, false, false, false, false, false, false, false, false, false, false, false, false, false, false, false, false, false, false, false] (by kernel_rfl) rfl rfl (trivial) (fun hHeld => ?_)
                    refine pure_ (i := 0) (N := some 120) (v := ?_) (a' := ?_) #[true, false, false, false, false, false, false, false, false, false, false, false, false, false, false, false, false, false, false, false, false] rfl rfl (by kernel_rfl) (fun _ _ _ h => h) (Or.inl ⟨by rfl, ?_⟩) ?_ ?_
                    rotate_left
                    · intro w'
                      go_simp
                      with_reducible rfl
                    rotate_left
                    · simp only [Act.put, List.setIfInBounds_toArray, List.set_cons_zero, List.set_cons_succ, i64_w, i32_w]
                      rfl
                    refine pure_ (i := 1) (N := some 121) (v := ?_) (a' := ?_) #[true, true, false, false, false, false, false, false, false, false, false, false, false, false, false, false, false, false, false, false, false] rfl rfl (by kernel_rfl) (fun _ _ _ h => h) (Or.inl ⟨by rfl, ?_⟩) ?_ ?_
                    rotate_left
                    · intro w'
                      go_simp
                      with_reducible rfl
                    rotate_left
                    · simp only [Act.put, List.setIfInBounds_toArray, List.set_cons_zero, List.set_cons_succ, i64_w, i32_w]
                      rfl
                    refine pure_ (i := 2) (N := some 122) (v := undef) (a' := ?_) #[true, true, true, false, false, false, false, false, false, false, false, false, false, false, false, false, false, false, false, false, false] rfl rfl (by kernel_rfl) (fun _ _ _ h => h) (Or.inr ⟨by rfl, rfl⟩) ?_ ?_
                    rotate_left
                    · simp only [Act.put, List.setIfInBounds_toArray, List.set_cons_zero, List.set_cons_succ, i64_w, i32_w]
                      rfl
                    refine pure_ (i := 3) (N := some 123) (v := undef) (a' := ?_) #[true, true, true, true, false, false, false, false, false, false, false, false, false, false, false, false, false, false, false, false, false] rfl rfl (by kernel_rfl) (fun _ _ _ h => h) (Or.inr ⟨by rfl, rfl⟩) ?_ ?_
                    rotate_left
                    · simp only [Act.put, List.setIfInBounds_toArray, List.set_cons_zero, List.set_cons_succ, i64_w, i32_w]
                      rfl
                    refine pure_ (i := 4) (N := some 124) (v := undef) (a' := ?_) #[true, true, true, true, true, false, false, false, false, false, false, false, false, false, false, false, false, false, false, false, false] rfl rfl (by kernel_rfl) (fun _ _ _ h => h) (Or.inr ⟨by rfl, rfl⟩) ?_ ?_
                    rotate_left
                    · simp only [Act.put, List.setIfInBounds_toArray, List.set_cons_zero, List.set_cons_succ, i64_w, i32_w]
                      rfl
                    refine pure_ (i := 5) (N := some 125) (v := undef) (a' := ?_) #[true, true, true, true, true, true, false, false, false, false, false, false, false, false, false, false, false, false, false, false, false] rfl rfl (by kernel_rfl) (fun _ _ _ h => h) (Or.inr ⟨by rfl, rfl⟩) ?_ ?_
                    rotate_left
                    · simp only [Act.put, List.setIfInBounds_toArray, List.set_cons_zero, List.set_cons_succ, i64_w, i32_w]
                      rfl
                    refine pure_ (i := 6) (N := some 126) (v := undef) (a' := ?_) #[true, true, true, true, true, true, true, false, false, false, false, false, false, false, false, false, false, false, false, false, false] rfl rfl (by kernel_rfl) (fun _ _ _ h => h) (Or.inr ⟨by rfl, rfl⟩) ?_ ?_
                    rotate_left
                    · simp only [Act.put, List.setIfInBounds_toArray, List.set_cons_zero, List.set_cons_succ, i64_w, i32_w]
                      rfl
                    refine pure_ (i := 7) (N := some 127) (v := undef) (a' := ?_) #[true, true, true, true, true, true, true, true, false, false, false, false, false, false, false, false, false, false, false, false, false] rfl rfl (by kernel_rfl) (fun _ _ _ h => h) (Or.inr ⟨by rfl, rfl⟩) ?_ ?_
                    rotate_left
                    · simp only [Act.put, List.setIfInBounds_toArray, List.set_cons_zero, List.set_cons_succ, i64_w, i32_w]
                      rfl
                    refine pure_ (i := 8) (N := some 128) (v := undef) (a' := ?_) #[true, true, true, true, true, true, true, true, true, false, false, false, false, false, false, false, false, false, false, false, false] rfl rfl (by kernel_rfl) (fun _ _ _ h => h) (Or.inr ⟨by rfl, rfl⟩) ?_ ?_
                    rotate_left
                    · simp only [Act.put, List.setIfInBounds_toArray, List.set_cons_zero, List.set_cons_succ, i64_w, i32_w]
                      rfl
                    refine pure_ (i := 9) (N := some 129) (v := undef) (a' := ?_) #[true, true, true, true, true, true, true, true, true, true, false, false, false, false, false, false, false, false, false, false, false] rfl rfl (by kernel_rfl) (fun _ _ _ h => h) (Or.inr ⟨by rfl, rfl⟩) ?_ ?_
                    rotate_left
                    · simp only [Act.put, List.setIfInBounds_toArray, List.set_cons_zero, List.set_cons_succ, i64_w, i32_w]
                      rfl
                    refine pure_ (i := 10) (N := some 130) (v := undef) (a' := ?_) #[true, true, true, true, true, true, true, true, true, true, true, false, false, false, false, false, false, false, false, false, false] rfl rfl (by kernel_rfl) (fun _ _ _ h => h) (Or.inr ⟨by rfl, rfl⟩) ?_ ?_
                    rotate_left
                    · simp only [Act.put, List.setIfInBounds_toArray, List.set_cons_zero, List.set_cons_succ, i64_w, i32_w]
                      rfl
                    refine pure_ (i := 11) (N := some 131) (v := undef) (a' := ?_) #[true, true, true, true, true, true, true, true, true, true, true, true, false, false, false, false, false, false, false, false, false] rfl rfl (by kernel_rfl) (fun _ _ _ h => h) (Or.inr ⟨by rfl, rfl⟩) ?_ ?_
                    rotate_left
                    · simp only [Act.put, List.setIfInBounds_toArray, List.set_cons_zero, List.set_cons_succ, i64_w, i32_w]
                      rfl
                    refine pure_ (i := 12) (N := some 132) (v := undef) (a' := ?_) #[true, true, true, true, true, true, true, true, true, true, true, true, true, false, false, false, false, false, false, false, false] rfl rfl (by kernel_rfl) (fun _ _ _ h => h) (Or.inr ⟨by rfl, rfl⟩) ?_ ?_
                    rotate_left
                    · simp only [Act.put, List.setIfInBounds_toArray, List.set_cons_zero, List.set_cons_succ, i64_w, i32_w]
                      rfl
                    refine pure_ (i := 13) (N := some 133) (v := undef) (a' := ?_) #[true, true, true, true, true, true, true, true, true, true, true, true, true, true, false, false, false, false, false, false, false] rfl rfl (by kernel_rfl) (fun _ _ _ h => h) (Or.inr ⟨by rfl, rfl⟩) ?_ ?_
                    rotate_left
                    · simp only [Act.put, List.setIfInBounds_toArray, List.set_cons_zero, List.set_cons_succ, i64_w, i32_w]
                      rfl
                    refine pure_ (i := 14) (N := some 134) (v := undef) (a' := ?_) #[true, true, true, true, true, true, true, true, true, true, true, true, true, true, true, false, false, false, false, false, false] rfl rfl (by kernel_rfl) (fun _ _ _ h => h) (Or.inr ⟨by rfl, rfl⟩) ?_ ?_
                    rotate_left
                    · simp only [Act.put, List.setIfInBounds_toArray, List.set_cons_zero, List.set_cons_succ, i64_w, i32_w]
                      rfl
                    refine pure_ (i := 15) (N := some 135) (v := undef) (a' := ?_) #[true, true, true, true, true, true, true, true, true, true, true, true, true, true, true, true, false, false, false, false, false] rfl rfl (by kernel_rfl) (fun _ _ _ h => h) (Or.inr ⟨by rfl, rfl⟩) ?_ ?_
                    rotate_left
                    · simp only [Act.put, List.setIfInBounds_toArray, List.set_cons_zero, List.set_cons_succ, i64_w, i32_w]
                      rfl
                    refine pure_ (i := 16) (N := some 136) (v := undef) (a' := ?_) #[true, true, true, true, true, true, true, true, true, true, true, true, true, true, true, true, true, false, false, false, false] rfl rfl (by kernel_rfl) (fun _ _ _ h => h) (Or.inr ⟨by rfl, rfl⟩) ?_ ?_
                    rotate_left
                    · simp only [Act.put, List.setIfInBounds_toArray, List.set_cons_zero, List.set_cons_succ, i64_w, i32_w]
                      rfl
                    refine pure_ (i := 17) (N := some 137) (v := undef) (a' := ?_) #[true, true, true, true, true, true, true, true, true, true, true, true, true, true, true, true, true, true, false, false, false] rfl rfl (by kernel_rfl) (fun _ _ _ h => h) (Or.inr ⟨by rfl, rfl⟩) ?_ ?_
                    rotate_left
                    · simp only [Act.put, List.setIfInBounds_toArray, List.set_cons_zero, List.set_cons_succ, i64_w, i32_w]
                      rfl
                    refine pure_ (i := 18) (N := some 138) (v := undef) (a' := ?_) #[true, true, true, true, true, true, true, true, true, true, true, true, true, true, true, true, true, true, true, false, false] rfl rfl (by kernel_rfl) (fun _ _ _ h => h) (Or.inr ⟨by rfl, rfl⟩) ?_ ?_
                    rotate_left
                    · simp only [Act.put, List.setIfInBounds_toArray, List.set_cons_zero, List.set_cons_succ, i64_w, i32_w]
                      rfl
                    refine pure_ (i := 19) (N := some 139) (v := undef) (a' := ?_) #[true, true, true, true, true, true, true, true, true, true, true, true, true, true, true, true, true, true, true, true, false] rfl rfl (by kernel_rfl) (fun _ _ _ h => h) (Or.inr ⟨by rfl, rfl⟩) ?_ ?_
                    rotate_left
                    · simp only [Act.put, List.setIfInBounds_toArray, List.set_cons_zero, List.set_cons_succ, i64_w, i32_w]
                      rfl
                    refine pure_ (i := 20) (N := some 140) (v := ?_) (a' := ?_) #[true, true, true, true, true, true, true, true, true, true, true, true, true, true, true, true, true, true, true, true, true] rfl rfl (by kernel_rfl) (fun _ _ _ h => h) (Or.inl ⟨by rfl, ?_⟩) ?_ ?_
                    rotate_left
                    · intro w'
                      go_simp
                      with_reducible rfl
                    rotate_left
                    · simp only [Act.put, List.setIfInBounds_toArray, List.set_cons_zero, List.set_cons_succ, i64_w, i32_w]
                      rfl
                    refine done_ (by kernel_rfl) ?_
                    go_wp2_with fail
                    go_roundw
                    case rel => exact ⟨j + 1, hlt, by simp, by repeat (first | exact below_step HV7.out HB8.out | apply below_drew1)⟩
                    case measure => simp [intOf]; omega
                  | true =>
                    rw [if_pos rfl] at hres
                    simp only [Prod.mk.injEq] at hres
                    obtain ⟨rfl, rfl, rfl, rfl, rfl, rfl⟩ := hres
                    have hsl : (((skip (j : Int) 0 M).length : Int) != (M.length : Int) - 1) = false := by have := HSK.out; simp; omega
                    have HSM := Lib.hid (fun (w' : World) (hb : Below W7.heap.size W7 w') => (show Calls Try.prog 19 #[.agg #[.int .i64 m.f0, .int .i64 m.f1, .slice B2 m.f2.length g2'], .agg #[.int .i64 m.f0, .int .i64 m.f1, .slice A3 m.f2.length c3]] w' (fun e w'' => e = .returned (.bool true) ∧ Below w'.heap.size w' w'') from by
                      obtain ⟨C, k, hE, hl, hC⟩ := Kd.R_reads (Kd.R_below HM7.out hb)
                      injection hE with hE1 _ hE3
                      subst hE1
                      subst hE3
                      exact skiarearef58_SameMessage.calls m.f0 m.f1 _ _ m.f2 m.f0 m.f1 _ _ m.f2 true _ hC hl (Kd.C_below HG3.out.2 (below_step HWR7.out hb)) HG3.out.1 (samemsg_f _ _ _)))
                    go_wp2_with fail
                    go_region_held3 (fun w' => w'.cell? ⟨w2.heap.size, 0, none⟩ = some (.slice C0 P.length f0) ∧ w'.cell? ⟨w2.heap.size, 1, none⟩ = some (.slice (some ad) M.length f1) ∧ w'.cell? (ad.add (j * 3)) = some (.int .i64 m.f0) ∧ w'.cell? ⟨(ad.add (j * 3)).block, (ad.add (j * 3)).off + 1, none⟩ = some (.int .i64 m.f1) ∧ w'.cell? ⟨(ad.add (j * 3)).block, (ad.add (j * 3)).off + 2, none⟩ = some (.slice A3 m.f2.length c3) ∧ w'.cell? ⟨w6.heap.size, 0, none⟩ = some (.slice B0 P.length g0') ∧ w'.cell? ⟨w6.heap.size, 1, none⟩ = some (.slice B1 (skip (j : Int) 0 M).length g1') ∧ w'.cell? ⟨w6.heap.size + 1, 0, none⟩ = some (.int .i64 m.f0) ∧ w'.cell? ⟨w6.heap.size + 1, 1, none⟩ = some (.int .i64 m.f1) ∧ w'.cell? ⟨w6.heap.size + 1, 2, none⟩ = some (.slice B2 m.f2.length g2') ∧ Below W7.heap.size W7 w')
                      (first | assumption | (go_split_ands; exact held2.out _ (by repeat (first | assumption | exact Below.refl _ _ | apply below_drew1 | exact below_step (by assumption) (by assumption)))) | exact held2.out _ (by repeat (first | assumption | exact Below.refl _ _ | apply below_drew1 | exact below_step (by assumption) (by assumption))))
                      (first | (go_at_call 19; refine (HSM.out _ (by first | assumption | (go_split_ands; assumption))).mono ?_; rintro e w9 ⟨rfl, hb9⟩; have hbw9 := below_step (by first | assumption | (go_split_ands; assumption)) hb9))
                    go_split_ands
                    have HB9 := Lib.hid (show Below W7.heap.size W7 w9 by assumption)
                    go_wp2_with fail
                    go_roundw
                    case rel => exact ⟨j + 1, hlt, by simp, by repeat (first | exact below_step HV7.out HB9.out | apply below_drew1)⟩
                    case measure => simp [intOf]; omega
                · have hjl : j = M.length := by omega
                  have hlt2 : ¬ ((j : Int) < (M.length : Int)) := by omega
                  obtain ⟨d0, d1, d2, d3, d4, _⟩ := held.out wr hbwr
                  clear hlt hj hjl
                  go_wp2_with fail
                  go_ret
                  exact ⟨rfl, below_step HB5.out hbwr⟩))
          rintro e w6 ⟨rfl, hb6⟩
          have hw6 := below_step hbW hb6
          obtain ⟨d0, d1, d2, d3, d4, _⟩ := held.out w6 hw6
          rw [hxy]
          cases bxy with
          | false =>
            go_wp2_with fail
            exact finZ.out _ hw6 _ _ _ _ _ _ _ _ _ _ _ _ _ _ _ _ _ _ _ _ _ _ _ _ _ _ _ _ _ _ _ _ _ _ _ _ _ _ _ _ _ _ _ _ _ _ _ _ _ _ _ _ _ _ _ _ _ _ _ _ _ _ _ 
          | true =>
            go_wp2_with fail
            refine (HCan.out _ hw6 y z).mono ?_
            rintro e w7 ⟨rfl, hb7⟩
            have hw7 := below_step hw6 hb7
            obtain ⟨d0, d1, d2, d3, d4, _⟩ := held.out w7 hw7
            obtain ⟨byz, hyz⟩ : ∃ b, canP P y z = b := ⟨_, rfl⟩
            rw [hyz]
            cases byz with
            | false =>
              go_wp2_with fail
              exact finZ.out _ hw7 _ _ _ _ _ _ _ _ _ _ _ _ _ _ _ _ _ _ _ _ _ _ _ _ _ _ _ _ _ _ _ _ _ _ _ _ _ _ _ _ _ _ _ _ _ _ _ _ _ _ _ _ _ _ _ _ _ _ _ _ _ _ _ 
            | true =>
              go_wp2_with fail
              refine (HCan.out _ hw7 x z).mono ?_
              rintro e w8 ⟨rfl, hb8⟩
              have hw8 := below_step hw7 hb8
              obtain ⟨d0, d1, d2, d3, d4, _⟩ := held.out w8 hw8
              rw [can_trans hxy hyz]
              go_wp2_with fail
              exact finZ.out _ hw8 _ _ _ _ _ _ _ _ _ _ _ _ _ _ _ _ _ _ _ _ _ _ _ _ _ _ _ _ _ _ _ _ _ _ _ _ _ _ _ _ _ _ _ _ _ _ _ _ _ _ _ _ _ _ _ _ _ _ _ _ _ _ _ ))
      cases g0
      · simp only [Bool.false_and] at hself
        refine start_ (n := 23) (S := (fun w' => w'.cell? ⟨w.heap.size, 0, none⟩ = some (.int .i64 x) ∧ w'.cell? ⟨w.heap.size, 1, none⟩ = some (.int .i64 y) ∧ w'.cell? ⟨w.heap.size, 2, none⟩ = some (.int .i64 z) ∧ w'.cell? ⟨w2.heap.size, 0, none⟩ = some (.slice C0 P.length f0) ∧ w'.cell? ⟨w2.heap.size, 1, none⟩ = some (.slice C1 M.length f1) ∧ Below V.heap.size V w')) (ds := []) #[false, false, false, false, false, false, false, false, false, false, false, false, false, false, false, false, false, false, false, false, false, false, false] (by kernel_rfl) rfl rfl (held.out _ (by repeat (first | assumption | exact Below.refl _ _ | apply below_drew1 | exact below_step (by assumption) (by assumption)))) (fun hHeld => ?_)
        refine take_ (i := 0) (N := some 40) (v := ?_) (a' := ?_) #[true, false, false, false, false, false, false, false, false, false, false, false, false, false, false, false, false, false, false, false, false, false, false] rfl rfl (by kernel_rfl) (fun _ _ _ h => h) (Or.inl ⟨by rfl, ?_⟩) hHeld ?_ ?_
        rotate_left
        · rintro w' ⟨s0, s1, s2, s3, s4, s5⟩
          go_simp
          with_reducible rfl
        rotate_left
        · simp only [Act.put, List.setIfInBounds_toArray, List.set_cons_zero, List.set_cons_succ, i64_w, i32_w]
          rfl
        refine pure_ (i := 1) (N := some 41) (v := ?_) (a' := ?_) #[true, true, false, false, false, false, false, false, false, false, false, false, false, false, false, false, false, false, false, false, false, false, false] rfl rfl (by kernel_rfl) (fun _ _ _ h => h) (Or.inl ⟨by rfl, ?_⟩) ?_ ?_
        rotate_left
        · intro w'
          go_simp
          with_reducible rfl
        rotate_left
        · simp only [Act.put, List.setIfInBounds_toArray, List.set_cons_zero, List.set_cons_succ, i64_w, i32_w]
          rfl
        refine pure_ (i := 2) (N := some 42) (v := ?_) (a' := ?_) #[true, true, true, false, false, false, false, false, false, false, false, false, false, false, false, false, false, false, false, false, false, false, false] rfl rfl (by kernel_rfl) (fun _ _ _ h => h) (Or.inl ⟨by rfl, ?_⟩) ?_ ?_
        rotate_left
        · intro w'
          go_simp
          with_reducible rfl
        rotate_left
        · simp only [Act.put, List.setIfInBounds_toArray, List.set_cons_zero, List.set_cons_succ, i64_w, i32_w]
          rfl
        refine pure_ (i := 4) (N := some 44) (v := ?_) (a' := ?_) #[true, true, true, false, true, false, false, false, false, false, false, false, false, false, false, false, false, false, false, false, false, false, false] rfl rfl (by kernel_rfl) (fun _ _ _ h => h) (Or.inl ⟨by rfl, ?_⟩) ?_ ?_
        rotate_left
        · intro w'
          go_simp
          with_reducible rfl
        rotate_left
        · simp only [Act.put, List.setIfInBounds_toArray, List.set_cons_zero, List.set_cons_succ, i64_w, i32_w]
          rfl
        refine pure_ (i := 5) (N := some 45) (v := ?_) (a' := ?_) #[true, true, true, false, true, true, false, false, false, false, false, false, false, false, false, false, false, false, false, false, false, false, false] rfl rfl (by kernel_rfl) (fun _ _ _ h => h) (Or.inl ⟨by rfl, ?_⟩) ?_ ?_
        rotate_left
        · intro w'
          go_simp
          with_reducible rfl
        rotate_left
        · simp only [Act.put, List.setIfInBounds_toArray, List.set_cons_zero, List.set_cons_succ, i64_w, i32_w]
          rfl
        refine one_ (i := 3) (N := some 43) #[true, true, true, true, true, true, false, false, false, false, false, false, false, false, false, false, false, false, false, false, false, false, false] rfl rfl (by kernel_rfl) (by decide) (fun K hK => ?_)
        refine goes_ Try.func20 (by kernel_rfl) rfl #[.agg #[.slice C0 P.length f0, .slice C1 M.length f1], .int .i64 x, .int .i64 x] (by rfl) rfl rfl (by (try simp only [List.map_toArray, List.map_cons, List.map_nil]); first | done | rfl) ?_
        refine (HCan.out _ (by repeat (first | assumption | exact Below.refl _ _ | apply below_drew1 | exact below_step (by assumption) (by assumption))) x x).mono ?_
        rintro e w5a ⟨rfl, hb5a⟩
        have hbw5a : Below V.heap.size V w5a := below_step (by repeat (first | assumption | exact Below.refl _ _ | apply below_drew1 | exact below_step (by assumption) (by assumption))) hb5a
        rw [hself]
        refine ⟨_, rfl, ?_⟩
        refine hK.out _ _ (held.out _ hbw5a) (fun hHeld => ?_)
        clear hK K
        refine norm_ (a' := ?_) ?_ ?_
        rotate_left
        · simp only [Act.put, List.setIfInBounds_toArray, List.set_cons_zero, List.set_cons_succ, i64_w, i32_w]
          rfl
        refine pure_ (i := 6) (N := some 46) (v := ?_) (a' := ?_) #[true, true, true, true, true, true, true, false, false, false, false, false, false, false, false, false, false, false, false, false, false, false, false] rfl rfl (by kernel_rfl) (fun _ _ _ h => h) (Or.inl ⟨by rfl, ?_⟩) ?_ ?_
        rotate_left
        · intro w'
          go_simp
          with_reducible rfl
        rotate_left
        · simp only [Act.put, List.setIfInBounds_toArray, List.set_cons_zero, List.set_cons_succ, i64_w, i32_w]
          rfl
        refine pure_ (i := 7) (N := some 47) (v := undef) (a' := ?_) #[true, true, true, true, true, true, true, true, false, false, false, false, false, false, false, false, false, false, false, false, false, false, false] rfl rfl (by kernel_rfl) (fun _ _ _ h => h) (Or.inr ⟨by rfl, rfl⟩) ?_ ?_
        rotate_left
        · simp only [Act.put, List.setIfInBounds_toArray, List.set_cons_zero, List.set_cons_succ, i64_w, i32_w]
          rfl
        refine pure_ (i := 8) (N := some 48) (v := undef) (a' := ?_) #[true, true, true, true, true, true, true, true, true, false, false, false, false, false, false, false, false, false, false, false, false, false, false] rfl rfl (by kernel_rfl) (fun _ _ _ h => h) (Or.inr ⟨by rfl, rfl⟩) ?_ ?_
        rotate_left
        · simp only [Act.put, List.setIfInBounds_toArray, List.set_cons_zero, List.set_cons_succ, i64_w, i32_w]
          rfl
        refine pure_ (i := 9) (N := some 49) (v := undef) (a' := ?_) #[true, true, true, true, true, true, true, true, true, true, false, false, false, false, false, false, false, false, false, false, false, false, false] rfl rfl (by kernel_rfl) (fun _ _ _ h => h) (Or.inr ⟨by rfl, rfl⟩) ?_ ?_
        rotate_left
        · simp only [Act.put, List.setIfInBounds_toArray, List.set_cons_zero, List.set_cons_succ, i64_w, i32_w]
          rfl
        refine pure_ (i := 10) (N := some 50) (v := ?_) (a' := ?_) #[true, true, true, true, true, true, true, true, true, true, true, false, false, false, false, false, false, false, false, false, false, false, false] rfl rfl (by kernel_rfl) (fun _ _ _ h => h) (Or.inl ⟨by rfl, ?_⟩) ?_ ?_
        rotate_left
        · intro w'
          go_simp
          with_reducible rfl
        rotate_left
        · simp only [Act.put, List.setIfInBounds_toArray, List.set_cons_zero, List.set_cons_succ, i64_w, i32_w]
          rfl
        refine pure_ (i := 11) (N := some 51) (v := ?_) (a' := ?_) #[true, true, true, true, true, true, true, true, true, true, true, true, false, false, false, false, false, false, false, false, false, false, false] rfl rfl (by kernel_rfl) (fun _ _ _ h => h) (Or.inl ⟨by rfl, ?_⟩) ?_ ?_
        rotate_left
        · intro w'
          go_simp
          with_reducible rfl
        rotate_left
        · simp only [Act.put, List.setIfInBounds_toArray, List.set_cons_zero, List.set_cons_succ, i64_w, i32_w]
          rfl
        refine pure_ (i := 12) (N := some 52) (v := ?_) (a' := ?_) #[true, true, true, true, true, true, true, true, true, true, true, true, true, false, false, false, false, false, false, false, false, false, false] rfl rfl (by kernel_rfl) (fun _ _ _ h => h) (Or.inl ⟨by rfl, ?_⟩) ?_ ?_
        rotate_left
        · intro w'
          go_simp
          with_reducible rfl
        rotate_left
        · simp only [Act.put, List.setIfInBounds_toArray, List.set_cons_zero, List.set_cons_succ, i64_w, i32_w]
          rfl
        refine take_ (i := 13) (N := some 53) (v := ?_) (a' := ?_) #[true, true, true, true, true, true, true, true, true, true, true, true, true, true, false, false, false, false, false, false, false, false, false] rfl rfl (by kernel_rfl) (fun _ _ _ h => h) (Or.inl ⟨by rfl, ?_⟩) hHeld ?_ ?_
        rotate_left
        · rintro w' ⟨s0, s1, s2, s3, s4, s5⟩
          go_simp
          with_reducible rfl
        rotate_left
        · simp only [Act.put, List.setIfInBounds_toArray, List.set_cons_zero, List.set_cons_succ, i64_w, i32_w]
          rfl
        refine pure_ (i := 14) (N := some 54) (v := ?_) (a' := ?_) #[true, true, true, true, true, true, true, true, true, true, true, true, true, true, true, false, false, false, false, false, false, false, false] rfl rfl (by kernel_rfl) (fun _ _ _ h => h) (Or.inl ⟨by rfl, ?_⟩) ?_ ?_
        rotate_left
        · intro w'
          go_simp
          with_reducible rfl
        rotate_left
        · simp only [Act.put, List.setIfInBounds_toArray, List.set_cons_zero, List.set_cons_succ, i64_w, i32_w]
          rfl
        refine pure_ (i := 15) (N := some 55) (v := ?_) (a' := ?_) #[true, true, true, true, true, true, true, true, true, true, true, true, true, true, true, true, false, false, false, false, false, false, false] rfl rfl (by kernel_rfl) (fun _ _ _ h => h) (Or.inl ⟨by rfl, ?_⟩) ?_ ?_
        rotate_left
        · intro w'
          go_simp
          with_reducible rfl
        rotate_left
        · simp only [Act.put, List.setIfInBounds_toArray, List.set_cons_zero, List.set_cons_succ, i64_w, i32_w]
          rfl
        refine take_ (i := 17) (N := some 57) (v := ?_) (a' := ?_) #[true, true, true, true, true, true, true, true, true, true, true, true, true, true, true, true, false, true, false, false, false, false, false] rfl rfl (by kernel_rfl) (fun _ _ _ h => h) (Or.inl ⟨by rfl, ?_⟩) hHeld ?_ ?_
        rotate_left
        · rintro w' ⟨s0, s1, s2, s3, s4, s5⟩
          go_simp
          with_reducible rfl
        rotate_left
        · simp only [Act.put, List.setIfInBounds_toArray, List.set_cons_zero, List.set_cons_succ, i64_w, i32_w]
          rfl
        refine pure_ (i := 18) (N := some 58) (v := ?_) (a' := ?_) #[true, true, true, true, true, true, true, true, true, true, true, true, true, true, true, true, false, true, true, false, false, false, false] rfl rfl (by kernel_rfl) (fun _ _ _ h => h) (Or.inl ⟨by rfl, ?_⟩) ?_ ?_
        rotate_left
        · intro w'
          go_simp
          with_reducible rfl
        rotate_left
        · simp only [Act.put, List.setIfInBounds_toArray, List.set_cons_zero, List.set_cons_succ, i64_w, i32_w]
          rfl
        refine pure_ (i := 19) (N := some 59) (v := ?_) (a' := ?_) #[true, true, true, true, true, true, true, true, true, true, true, true, true, true, true, true, false, true, true, true, false, false, false] rfl rfl (by kernel_rfl) (fun _ _ _ h => h) (Or.inl ⟨by rfl, ?_⟩) ?_ ?_
        rotate_left
        · intro w'
          go_simp
          with_reducible rfl
        rotate_left
        · simp only [Act.put, List.setIfInBounds_toArray, List.set_cons_zero, List.set_cons_succ, i64_w, i32_w]
          rfl
        refine one_ (i := 16) (N := some 56) #[true, true, true, true, true, true, true, true, true, true, true, true, true, true, true, true, true, true, true, true, false, false, false] rfl rfl (by kernel_rfl) (by decide) (fun K hK => ?_)
        refine goes_ Try.func20 (by kernel_rfl) rfl #[.agg #[.slice C0 P.length f0, .slice C1 M.length f1], .int .i64 x, .int .i64 y] (by rfl) rfl rfl (by (try simp only [List.map_toArray, List.map_cons, List.map_nil]); first | done | rfl) ?_
        refine (HCan.out _ (by repeat (first | assumption | exact Below.refl _ _ | apply below_drew1 | exact below_step (by assumption) (by assumption))) x y).mono ?_
        rintro e w5b ⟨rfl, hb5b⟩
        have hbw5b : Below V.heap.size V w5b := below_step (by repeat (first | assumption | exact Below.refl _ _ | apply below_drew1 | exact below_step (by assumption) (by assumption))) hb5b
        rw [hxy]
        refine ⟨_, rfl, ?_⟩
        refine hK.out _ _ (held.out _ hbw5b) (fun hHeld => ?_)
        clear hK K
        refine norm_ (a' := ?_) ?_ ?_
        rotate_left
        · simp only [Act.put, List.setIfInBounds_toArray, List.set_cons_zero, List.set_cons_succ, i64_w, i32_w]
          rfl
        refine one_ (i := 20) (N := some 60) #[true, true, true, true, true, true, true, true, true, true, true, true, true, true, true, true, true, true, true, true, true, false, false] rfl rfl (by kernel_rfl) (by decide) (fun K hK => ?_)
        refine goes_ Try.func20 (by kernel_rfl) rfl #[.agg #[.slice C0 P.length f0, .slice C1 M.length f1], .int .i64 y, .int .i64 x] (by rfl) rfl rfl (by (try simp only [List.map_toArray, List.map_cons, List.map_nil]); first | done | rfl) ?_
        refine (HCan.out _ (by repeat (first | assumption | exact Below.refl _ _ | apply below_drew1 | exact below_step (by assumption) (by assumption))) y x).mono ?_
        rintro e w5c ⟨rfl, hb5c⟩
        have hbw5c : Below V.heap.size V w5c := below_step (by repeat (first | assumption | exact Below.refl _ _ | apply below_drew1 | exact below_step (by assumption) (by assumption))) hb5c
        rw [hyx]
        refine ⟨_, rfl, ?_⟩
        refine hK.out _ _ (held.out _ hbw5c) (fun hHeld => ?_)
        clear hK K
        refine norm_ (a' := ?_) ?_ ?_
        rotate_left
        · simp only [Act.put, List.setIfInBounds_toArray, List.set_cons_zero, List.set_cons_succ, i64_w, i32_w]
          rfl
        refine pure_ (i := 21) (N := some 61) (v := ?_) (a' := ?_) #[true, true, true, true, true, true, true, true, true, true, true, true, true, true, true, true, true, true, true, true, true, true, false] rfl rfl (by kernel_rfl) (fun _ _ _ h => h) (Or.inl ⟨by rfl, ?_⟩) ?_ ?_
        rotate_left
        · intro w'
          go_simp
          with_reducible rfl
        rotate_left
        · simp only [Act.put, List.setIfInBounds_toArray, List.set_cons_zero, List.set_cons_succ, i64_w, i32_w]
          rfl
        refine pure_ (i := 22) (N := some 62) (v := ?_) (a' := ?_) #[true, true, true, true, true, true, true, true, true, true, true, true, true, true, true, true, true, true, true, true, true, true, true] rfl rfl (by kernel_rfl) (fun _ _ _ h => h) (Or.inl ⟨by rfl, ?_⟩) ?_ ?_
        rotate_left
        · intro w'
          go_simp
          with_reducible rfl
        rotate_left
        · simp only [Act.put, List.setIfInBounds_toArray, List.set_cons_zero, List.set_cons_succ, i64_w, i32_w]
          rfl
        refine done_ (by kernel_rfl) ?_
        go_wp2_with fail
        exact finY.out _ (by assumption) _ _ _ _ _ _ _ _ _ _ _ _ _ _ _ _ _ _ _ _ _ _ _ _ _ _ _ _ _ _ _ _ _ _ _ _ _ _ _ _ _ _ _ _ _ _ 
      · cases g1
        all_goals (
          (try simp only [Bool.and_true, Bool.and_false] at hself)
          go_region_held3 (fun w' => w'.cell? ⟨w.heap.size, 0, none⟩ = some (.int .i64 x) ∧ w'.cell? ⟨w.heap.size, 1, none⟩ = some (.int .i64 y) ∧ w'.cell? ⟨w.heap.size, 2, none⟩ = some (.int .i64 z) ∧ w'.cell? ⟨w2.heap.size, 0, none⟩ = some (.slice C0 P.length f0) ∧ w'.cell? ⟨w2.heap.size, 1, none⟩ = some (.slice C1 M.length f1) ∧ Below V.heap.size V w')
            (first | assumption | (go_split_ands; exact held.out _ (by repeat (first | assumption | exact Below.refl _ _ | apply below_drew1 | exact below_step (by assumption) (by assumption)))) | exact held.out _ (by repeat (first | assumption | exact Below.refl _ _ | apply below_drew1 | exact below_step (by assumption) (by assumption))))
            (first | (go_at_call 20; refine (HCan.out _ (by first | assumption | (go_split_ands; assumption)) _ _).mono ?_; rintro e w5 ⟨rfl, hb5⟩; have hbw := below_step (by first | assumption | (go_split_ands; assumption)) hb5))
          go_split_ands
          go_wp2_with fail
          exact finY.out _ (by assumption) _ _ _ _ _ _ _ _ _ _ _ _ _ _ _ _ _ _ _ _ _ _ _ _ _ _ _ _ _ _ _ _ _ _ _ _ _ _ _ _ _ _ _ _ _ _ )
    · have he1 : (e0 != 0) = true := by simpa using he
      clear he
      go_wp2_with fail
      go_ret
      exact ⟨rfl, HB.out⟩
/-! ### in the form of a printed function -/
theorem PureNetworkParts (n : Int) (l : List S43) (x y z : Int) (w0 : (Lit.int .i64 n).wf = true) (hm : l.length ≤ maxLen) (hy : l.length * 72 ≤ 140737488351232) (hF : ∀ x ∈ l, OpOk x) (hG : (Lit.int .i64 x).wf = true ∧ (Lit.int .i64 y).wf = true ∧ (Lit.int .i64 z).wf = true) : ∃ k, law_true k = some true := ⟨0, rfl⟩
theorem skiarealaw58_NetworkParts.calls (k : Nat) (n : Int) (A : Option Addr) (c : Nat) (l : List S43) (x y z : Int) (r : Bool) (w : World) (hr : Kd.C k43 w A l.length l) (hc : l.length ≤ c) (h : law_true k = some r) :
    Calls Try.prog 7 #[.int .i64 n, .slice A l.length c, .agg #[.int .i64 x, .int .i64 y, .int .i64 z]] w fun e w' => e = .returned (.bool r) ∧ Below w.heap.size w w' := by
  obtain rfl := Option.some.inj h
  exact parts_calls n x y z A c l w hr hc

end Go.Proofs.Ytlaheldjlfckkaa.A

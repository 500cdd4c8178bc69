/- after, of the laws of layer 58: the walk. -/
import Derived.Test.YtlaheldjlfckkaaHPlain
import Derived.Deep.RegionHeld3
namespace Go.Proofs.Ytlaheldjlfckkaa.A
open Go.RowKit Go.Proofs.YtlaheldjlfckkaaW.PrintWords Go.Proofs.YtlaheldjlfckkaaW.PrintLast Go.Proofs.YtlaheldjlfckkaaW.PrintMore
set_option linter.unusedVariables false
set_option linter.unusedSimpArgs false

/-- after's variables. -/
structure Af (w w' : World) (b : Nat) (A0 : Option Addr) (c0 : Nat) (P : List Int) (A1 : Option Addr) (c1 : Nat) (M : List S39) : Prop where
  row : NR w' b A0 c0 P A1 c1 M
  var : w'.heap[w.heap.size]? = some (.cells #[.slice A0 P.length c0, .slice A1 M.length c1] 25 (0, 0))
  res : w'.heap[w.heap.size + 1]? = some (.cells #[.slice none 0 0, .slice none 0 0] 25 (0, 0))
  bel : Below w.heap.size w w'
theorem Af.step {w w' w'' : World} {b : Nat} {A0 A1 : Option Addr} {c0 c1 : Nat} {P : List Int} {M : List S39} (h : Af w w' b A0 c0 P A1 c1 M) (hb : Below w'.heap.size w' w'') : Af w w'' b A0 c0 P A1 c1 M :=
  ⟨h.row.below hb, blk_below h.var hb, blk_below h.res hb, below_step h.bel hb⟩
theorem Af.put {w w' : World} {b : Nat} {A0 A1 B0 B1 : Option Addr} {c0 c1 d0 d1 : Nat} {P P' : List Int} {M M' : List S39} (h : Af w w' b A0 c0 P A1 c1 M) (hN : NR w' b B0 d0 P' B1 d1 M') :
    Af w ((w'.setCell ⟨w.heap.size, 0, none⟩ (.slice B0 P'.length d0)).setCell ⟨w.heap.size, 1, none⟩ (.slice B1 M'.length d1)) b B0 d0 P' B1 d1 M' :=
  ⟨(hN.set h.var (by decide) (by decide) 0 _).set (blk_set h.var 0 _) (by decide) (by decide) 1 _, blk_set (blk_set h.var 0 _) 1 _, blk_far (blk_far h.res (by simp) _) (by simp) _, below_set (below_set h.bel (by simp)) (by simp)⟩

theorem blk_new1 (W : World) (o : Obj) (cs : Array Value) (n : Nat) : ((W.alloc o).alloc (.cells cs n)).heap[W.heap.size + 1]? = some (.cells cs n (0, 0)) := by
  have h := blk_new (W.alloc o) (.cells cs n (0, 0))
  simpa using h
theorem blk_new3 (W : World) (p q r : Addr) (u v z : Value) (cs : Array Value) (n : Nat) : ((((W.setCell p u).setCell q v).setCell r z).alloc (.cells cs n)).heap[W.heap.size]? = some (.cells cs n (0, 0)) := by
  have e : (((W.setCell p u).setCell q v).setCell r z).heap.size = W.heap.size := by simp [World.setCell]
  have h := blk_new (((W.setCell p u).setCell q v).setCell r z) (.cells cs n (0, 0))
  rw [e] at h
  exact h
theorem NR.alloc' {w : World} {b : Nat} {A0 A1 : Option Addr} {c0 c1 : Nat} {P : List Int} {M : List S39} (h : NR w b A0 c0 P A1 c1 M) (o : Obj) : NR (w.alloc o) b A0 c0 P A1 c1 M := h.below (below_alloc (Below.refl _ _) o)

theorem nr1 {wr w2 : World} {b n0 n1 n2 e0 e1 e2 : Nat} {f t : Int} {C0 C1 C2 : Option Addr} {P2 : List Int} {M2 : List S39} (hbwr : b ≤ wr.heap.size) (hN : NR w2 wr.drew.heap.size C0 e0 P2 C1 e1 M2) : NR ((w2.alloc (.cells #[.slice C0 n0 e0, .slice C1 n1 e1] 25)).alloc (.cells #[.int .i64 f, .int .i64 t, .slice C2 n2 e2] 39)) b C0 e0 P2 C1 e1 M2 := by
  refine NR.lower (b := ?bb) ?h1 ?h2
  case h1 => repeat (first | with_reducible exact hN | with_reducible refine NR.alloc' ?_ _ | with_reducible refine NR.under ?_ ?_ _)
             all_goals (first | (simp; done) | (simp; omega))
  case h2 => exact Nat.le_trans hbwr (by first | (simp; done) | (simp; omega))
theorem nr2 {wr w2 : World} {b n0 n1 n2 e0 e1 e2 : Nat} {f t : Int} {C0 C1 C2 : Option Addr} {P2 : List Int} {M2 : List S39} (hbwr : b ≤ wr.heap.size) (hN : NR w2 wr.drew.heap.size C0 e0 P2 C1 e1 M2) : NR ((w2.alloc (.cells #[.int .i64 f, .int .i64 t, .slice C2 n2 e2] 39)).alloc (.cells #[.slice C0 n0 e0, .slice C1 n1 e1] 25)) b C0 e0 P2 C1 e1 M2 := by
  refine NR.lower (b := ?bb) ?h1 ?h2
  case h1 => repeat (first | with_reducible exact hN | with_reducible refine NR.alloc' ?_ _ | with_reducible refine NR.under ?_ ?_ _)
             all_goals (first | (simp; done) | (simp; omega))
  case h2 => exact Nat.le_trans hbwr (by first | (simp; done) | (simp; omega))
theorem nr3 {wr w2 : World} {b n0 n1 n2 e0 e1 e2 : Nat} {f t : Int} {C0 C1 C2 : Option Addr} {P2 : List Int} {M2 : List S39} (hbwr : b ≤ wr.heap.size) (hN : NR w2 (wr.alloc (.cells #[.slice none 0 0, .slice none 0 0] 25)).drew.heap.size C0 e0 P2 C1 e1 M2) : NR (((w2.setCell ⟨wr.heap.size, 0, none⟩ (.slice C0 n0 e0)).setCell ⟨wr.heap.size, 1, none⟩ (.slice C1 n1 e1)).alloc (.cells #[.int .i64 f, .int .i64 t, .slice C2 n2 e2] 39)) b C0 e0 P2 C1 e1 M2 := by
  refine NR.lower (b := ?bb) ?h1 ?h2
  case h1 => repeat (first | with_reducible exact hN | with_reducible refine NR.alloc' ?_ _ | with_reducible refine NR.under ?_ ?_ _)
             all_goals (first | (simp; done) | (simp; omega))
  case h2 => exact Nat.le_trans hbwr (by first | (simp; done) | (simp; omega))
theorem nr4 {wr w2 : World} {b n0 n1 n2 e0 e1 e2 : Nat} {f t : Int} {C0 C1 C2 : Option Addr} {P2 : List Int} {M2 : List S39} (hbwr : b ≤ wr.heap.size) (hN : NR w2 ((wr.alloc (.cells #[.slice none 0 0, .slice none 0 0] 25)).alloc (.cells #[.int .i64 0, .int .i64 0, .slice none 0 0] 39)).drew.heap.size C0 e0 P2 C1 e1 M2) : NR (((((w2.setCell ⟨wr.heap.size, 0, none⟩ (.slice C0 n0 e0)).setCell ⟨wr.heap.size, 1, none⟩ (.slice C1 n1 e1)).setCell ⟨wr.heap.size + 1, 0, none⟩ (.int .i64 f)).setCell ⟨wr.heap.size + 1, 1, none⟩ (.int .i64 t)).setCell ⟨wr.heap.size + 1, 2, none⟩ (.slice C2 n2 e2)) b C0 e0 P2 C1 e1 M2 := by
  refine NR.lower (b := ?bb) ?h1 ?h2
  case h1 => repeat (first | with_reducible exact hN | with_reducible refine NR.alloc' ?_ _ | with_reducible refine NR.under ?_ ?_ _)
             all_goals (first | (simp; done) | (simp; omega))
  case h2 => exact Nat.le_trans hbwr (by first | (simp; done) | (simp; omega))
theorem nr5 {wr w2 : World} {b n0 n1 n2 e0 e1 e2 : Nat} {f t : Int} {C0 C1 C2 : Option Addr} {P2 : List Int} {M2 : List S39} (hbwr : b ≤ wr.heap.size) (hN : NR w2 (wr.alloc (.cells #[.int .i64 0, .int .i64 0, .slice none 0 0] 39)).drew.heap.size C0 e0 P2 C1 e1 M2) : NR ((((w2.setCell ⟨wr.heap.size, 0, none⟩ (.int .i64 f)).setCell ⟨wr.heap.size, 1, none⟩ (.int .i64 t)).setCell ⟨wr.heap.size, 2, none⟩ (.slice C2 n2 e2)).alloc (.cells #[.slice C0 n0 e0, .slice C1 n1 e1] 25)) b C0 e0 P2 C1 e1 M2 := by
  refine NR.lower (b := ?bb) ?h1 ?h2
  case h1 => repeat (first | with_reducible exact hN | with_reducible refine NR.alloc' ?_ _ | with_reducible refine NR.under ?_ ?_ _)
             all_goals (first | (simp; done) | (simp; omega))
  case h2 => exact Nat.le_trans hbwr (by first | (simp; done) | (simp; omega))
theorem nr6 {wr w2 : World} {b n0 n1 n2 e0 e1 e2 : Nat} {f t : Int} {C0 C1 C2 : Option Addr} {P2 : List Int} {M2 : List S39} (hbwr : b ≤ wr.heap.size) (hN : NR w2 ((wr.alloc (.cells #[.int .i64 0, .int .i64 0, .slice none 0 0] 39)).alloc (.cells #[.slice none 0 0, .slice none 0 0] 25)).drew.heap.size C0 e0 P2 C1 e1 M2) : NR (((((w2.setCell ⟨wr.heap.size + 1, 0, none⟩ (.slice C0 n0 e0)).setCell ⟨wr.heap.size + 1, 1, none⟩ (.slice C1 n1 e1)).setCell ⟨wr.heap.size, 0, none⟩ (.int .i64 f)).setCell ⟨wr.heap.size, 1, none⟩ (.int .i64 t)).setCell ⟨wr.heap.size, 2, none⟩ (.slice C2 n2 e2)) b C0 e0 P2 C1 e1 M2 := by
  refine NR.lower (b := ?bb) ?h1 ?h2
  case h1 => repeat (first | with_reducible exact hN | with_reducible refine NR.alloc' ?_ _ | with_reducible refine NR.under ?_ ?_ _)
             all_goals (first | (simp; done) | (simp; omega))
  case h2 => exact Nat.le_trans hbwr (by first | (simp; done) | (simp; omega))

set_option maxHeartbeats 64000000 in
set_option maxRecDepth 100000 in
theorem after_calls {w : World} {b : Nat} {A0 A1 A : Option Addr} {c0 c1 c : Nat} {P : List Int} {M : List S39} (l : List S43) (HN : NR w b A0 c0 P A1 c1 M) (hb : b ≤ w.heap.size) (hO : Ok P M) (hr : Kd.C k43 w A l.length l) (hc : l.length ≤ c)
    (hB : ∀ o ∈ l, o.f3.length ≤ 1000000) (hl : l.length ≤ 1000000) :
    Calls Try.prog 16 #[.agg #[.slice A0 P.length c0, .slice A1 M.length c1], .slice A l.length c] w fun e w' => ∃ B0 d0 B1 d1,
      e = .returned (.agg #[.slice B0 (afterP P M l).1.length d0, .slice B1 (afterP P M l).2.length d1]) ∧ NR w' b B0 d0 (afterP P M l).1 B1 d1 (afterP P M l).2 ∧ Below w.heap.size w w' := by
  have HR := Lib.hid hr
  have HH := Lib.hid HN
  have HO := Lib.hid hO
  clear hr HN hO
  go_enter Try.func16, Try.ntmps16
  go_wp2
  go_loopw [5] (fun s5 wr => ∃ (j : Nat) (B0 B1 : Option Addr) (d0 d1 : Nat) (Q : List Int) (N : List S39), j ≤ l.length ∧ s5 = .int .i64 j ∧ Af w wr b B0 d0 Q B1 d1 N ∧ Ok Q N ∧ Hid ((l.drop j).foldl stepP (Q, N) = afterP P M l)) (fun s5 _ => l.length - (intOf s5).toNat)
  case atStart => 
    refine ⟨0, A0, A1, c0, c1, P, M, Nat.zero_le _, rfl, ⟨HH.out.below (below_alloc (below_alloc (Below.refl _ _) _) _), blk_alloc (blk_new _ _) _, ?_, below_alloc (below_alloc (Below.refl _ _) _) _⟩, HO.out, Lib.hid rfl⟩
    have := blk_new (w.alloc (.cells #[.slice A0 P.length c0, .slice A1 M.length c1] 25)) (.cells #[.slice none 0 0, .slice none 0 0] 25)
    simpa using this
  case round =>
    obtain ⟨j, B0, B1, d0, d1, Q, N, hj, rfl, H, hQ, HF⟩ := hrel
    have k0 : wr.cell? ⟨w.heap.size, 0, none⟩ = some (.slice B0 Q.length d0) := (blk_cell H.var 0).trans rfl
    have k1 : wr.cell? ⟨w.heap.size, 1, none⟩ = some (.slice B1 N.length d1) := (blk_cell H.var 1).trans rfl
    have HA := Lib.hid H
    have HQ := Lib.hid hQ
    clear H hQ
    by_cases hlt : j < l.length
    · have hltz : (j : Int) < (l.length : Int) := by omega
      have hr2 := Kd.C_below HR.out HA.out.bel
      obtain ⟨ad, A3, c3, A4, c4, eA, x0, x1, x2, x3, x4, h3, g3, h4, g4⟩ := at_T43 hr2 (j : Int) (by omega) hltz
      subst eA
      have hm : rd_T43 l (j : Int) ∈ l := by
        have : rd_T43 l (j : Int) = l[j] := by unfold rd_T43; simp [List.getD_eq_getElem?_getD, hlt]
        rw [this]
        exact List.getElem_mem hlt
      have hBo := hB _ hm
      have HD := Lib.hid (drop_rd43 l j hlt)
      clear hm
      generalize rd_T43 l (j : Int) = o at *
      have HX := Lib.hid (And.intro x0 (And.intro x1 (And.intro x2 (And.intro x3 (And.intro x4 (And.intro h3 (And.intro g3 (And.intro h4 g4))))))))
      rw [Int.toNat_natCast] at x0 x1 x2 x3 x4
      obtain ⟨P2, M2, f2, t2, b2, e2, hd⟩ : ∃ P2 M2 f2 t2 b2 e2, doneP Q N o = (P2, M2, f2, t2, b2, e2) := ⟨_, _, _, _, _, _, rfl⟩
      have HC := Lib.hid (fun (w' : World) (hb : Below wr.heap.size wr w') => (show Calls Try.prog 17 #[.agg #[.slice B0 Q.length d0, .slice B1 N.length d1], .agg #[.int .i64 o.f0, .int .i64 o.f1, .int .i64 o.f2, .slice A3 o.f3.length c3, .slice A4 o.f4.length c4]] w' (RetMsg w' P2 M2 f2 t2 b2 e2) from by
        have h := done_calls o (HA.out.row.below hb) HQ.out.small hBo (Kd.C_below g3 hb) h3 (Kd.C_below g4 hb) h4
        rw [hd] at h
        exact h))
      have held := Lib.hid (fun (w' : World) (hb : Below wr.heap.size wr w') => (show w'.cell? ⟨w.heap.size, 0, none⟩ = some (.slice B0 Q.length d0) ∧ w'.cell? ⟨w.heap.size, 1, none⟩ = some (.slice B1 N.length d1) ∧ w'.cell? (ad.add (j * 5)) = some (.int .i64 o.f0) ∧
          w'.cell? ⟨(ad.add (j * 5)).block, (ad.add (j * 5)).off + 1, none⟩ = some (.int .i64 o.f1) ∧ w'.cell? ⟨(ad.add (j * 5)).block, (ad.add (j * 5)).off + 2, none⟩ = some (.int .i64 o.f2) ∧
          w'.cell? ⟨(ad.add (j * 5)).block, (ad.add (j * 5)).off + 3, none⟩ = some (.slice A3 o.f3.length c3) ∧ w'.cell? ⟨(ad.add (j * 5)).block, (ad.add (j * 5)).off + 4, none⟩ = some (.slice A4 o.f4.length c4) ∧ Below wr.heap.size wr w' from
        ⟨(hb.cell (World.block_lt_of_cell? wr _ k0)).trans k0, (hb.cell (World.block_lt_of_cell? wr _ k1)).trans k1, (hb.cell (World.block_lt_of_cell? wr _ x0)).trans x0, (hb.cell (World.block_lt_of_cell? wr _ x1)).trans x1, (hb.cell (World.block_lt_of_cell? wr _ x2)).trans x2, (hb.cell (World.block_lt_of_cell? wr _ x3)).trans x3, (hb.cell (World.block_lt_of_cell? wr _ x4)).trans x4, hb⟩))
      have HDD := Lib.hid hd
      clear hr2 h3 g3 h4 g4 hBo hj HX hd
      go_wp2_with fail
      have hbwr : b ≤ wr.heap.size := Nat.le_trans hb HA.out.bel.size
      rename_i K3 a3
      have fin := Lib.hid (fun (V : World) (X : Nat) (t7 t15 t21 t23 : Value) (C0 C1 : Option Addr) (e0 e1 : Nat) (hbV : Below wr.heap.size wr V) (hX : V.heap[X]? = some (.cells #[.slice C0 P2.length e0, .slice C1 M2.length e1] 25 (0, 0))) (hN : NR V b C0 e0 P2 C1 e1 M2) =>
        (show K3 { tmps := #[.agg #[.slice A0 P.length c0, .slice A1 M.length c1], .slice (some ad) l.length c, .pointer (some ⟨w.heap.size, 0, none⟩), undef, .pointer (some ⟨w.heap.size + 1, 0, none⟩), .int .i64 j, .pointer (some ⟨X, 0, none⟩), t7, .int .i64 e2,
            .int .i64 j, .slice (some ad) l.length c, .int .i64 l.length, .bool true, u13, u14, t15, .agg #[.slice B0 Q.length d0, .slice B1 N.length d1], .slice (some ad) l.length c, .int .i64 j, .pointer (some (ad.add (j * 5))),
            .agg #[.int .i64 o.f0, .int .i64 o.f1, .int .i64 o.f2, .slice A3 o.f3.length c3, .slice A4 o.f4.length c4], t21, .agg #[.slice C0 P2.length e0, .slice C1 M2.length e1], t23, .int .i64 e2, u25, u26, u27, undef], defers := [] } V from by
          have HAV := HA.out.step hbV
          have y0 : V.cell? ⟨X, 0, none⟩ = some (.slice C0 P2.length e0) := (blk_cell hX 0).trans rfl
          have y1 : V.cell? ⟨X, 1, none⟩ = some (.slice C1 M2.length e1) := (blk_cell hX 1).trans rfl
          have z0 : V.cell? ⟨w.heap.size, 0, none⟩ = some (.slice B0 Q.length d0) := (blk_cell HAV.var 0).trans rfl
          have z1 : V.cell? ⟨w.heap.size, 1, none⟩ = some (.slice B1 N.length d1) := (blk_cell HAV.var 1).trans rfl
          have z2 := blk_frozen HAV.var 0
          have z3 := blk_frozen HAV.var 1
          have e5 : IntKind.i64.wrap ((j : Int) + 1) = (j : Int) + 1 := IntWalk.i64_in _ (by omega)
          have hf := HF.out
          rw [HD.out, List.foldl_cons] at hf
          refine a3 _ _ ?_
          by_cases he : e2 = 0
          · have he1 : (e2 == 0) = true := by simpa using he
            have hs : stepP (Q, N) o = (P2, M2) := by unfold stepP; rw [HDD.out]; simp [he]
            have hok := done_ok HQ.out o (by rw [HDD.out]; exact he)
            rw [HDD.out] at hok
            rw [hs] at hf
            have HP := Lib.hid (HAV.put hN)
            have HFF := Lib.hid hf
            have HOO := Lib.hid hok
            clear hf hs hok HAV hX hN hbV x0 x1 x2 x3 x4 k0 k1
            go_wp2_with fail
            go_roundw
            case rel => exact ⟨j + 1, C0, C1, e0, e1, P2, M2, hlt, by simp, HP.out, HOO.out, HFF.out |> Lib.hid⟩
            case measure => simp [intOf]; omega
          · have he1 : (e2 == 0) = false := by simpa using he
            have hs : stepP (Q, N) o = (Q, N) := by unfold stepP; rw [HDD.out]; simp [he]
            rw [hs] at hf
            have HP := Lib.hid HAV
            have HFF := Lib.hid hf
            clear hf hs HAV hX hN hbV x0 x1 x2 x3 x4 k0 k1
            go_wp2_with fail
            go_roundw
            case rel => exact ⟨j + 1, B0, B1, d0, d1, Q, N, hlt, by simp, HP.out, HQ.out, HFF.out |> Lib.hid⟩
            case measure => simp [intOf]; omega))
      go_region_held3 (fun w' => w'.cell? ⟨w.heap.size, 0, none⟩ = some (.slice B0 Q.length d0) ∧ w'.cell? ⟨w.heap.size, 1, none⟩ = some (.slice B1 N.length d1) ∧ w'.cell? (ad.add (j * 5)) = some (.int .i64 o.f0) ∧
          w'.cell? ⟨(ad.add (j * 5)).block, (ad.add (j * 5)).off + 1, none⟩ = some (.int .i64 o.f1) ∧ w'.cell? ⟨(ad.add (j * 5)).block, (ad.add (j * 5)).off + 2, none⟩ = some (.int .i64 o.f2) ∧
          w'.cell? ⟨(ad.add (j * 5)).block, (ad.add (j * 5)).off + 3, none⟩ = some (.slice A3 o.f3.length c3) ∧ w'.cell? ⟨(ad.add (j * 5)).block, (ad.add (j * 5)).off + 4, none⟩ = some (.slice A4 o.f4.length c4) ∧ Below wr.heap.size wr w')
        (first
          | exact held.out _ (below_drew (Below.refl _ _))
          | (go_split_ands; exact held.out _ (by repeat (first | assumption | exact Below.refl _ _ | apply below_alloc | apply below_drew1 | exact below_step (by assumption) (by assumption) | (refine below_set ?_ (by first | exact Below.size (by assumption) | (simp; done) | (simp; omega))))))
          )
        (first
          | (go_at_call 17; refine (HC.out _ (by first | assumption | (go_split_ands; assumption))).mono ?_; rintro e w2 ⟨C0, e0, C1, e1, C2, e2', rfl, hN, hM, hb2⟩; have hNN := Lib.hid hN; clear hN hM; have hbw := below_step (by first | assumption | (go_split_ands; assumption)) hb2
             (try (have p1 := blk_below (blk_drew (blk_new _ _)) hb2; have f10 := (blk_cell p1 0).trans rfl; have f11 := (blk_cell p1 1).trans rfl; have f12 := (blk_cell p1 2).trans rfl; have f13 := blk_frozen p1 0; have f14 := blk_frozen p1 1; have f15 := blk_frozen p1 2; have f16 := blk_lt p1; simp at f10 f11 f12 f13 f14 f15 f16))
             (try rw [show ∀ o : Obj, (wr.alloc o).heap.size = wr.heap.size + 1 from fun o => by simp] at p1)
             (try (have p2 := blk_below (blk_drew (blk_alloc (blk_new _ _) _)) hb2; have f20 := (blk_cell p2 0).trans rfl; have f21 := (blk_cell p2 1).trans rfl; have f22 := (blk_cell p2 2).trans rfl; have f23 := blk_frozen p2 0; have f24 := blk_frozen p2 1; have f25 := blk_frozen p2 2; have f26 := blk_lt p2; simp at f20 f21 f22 f23 f24 f25 f26))))
      all_goals (
        go_split_ands
        show K3 _ _
        refine fin.out _ _ _ _ _ _ _ _ _ _ (by assumption) ?_ ?_
        · first
            | with_reducible exact blk_alloc (blk_new _ _) _
            | with_reducible exact blk_new1 _ _ _ _
            | with_reducible exact blk_new3 _ _ _ _ _ _ _ _ _
            | (with_reducible refine blk_alloc ?_ _; refine blk_put (cs := #[.slice C0 P2.length e0, .slice none 0 0]) ?_ 1 _ rfl; refine blk_put (cs := #[.slice none 0 0, .slice none 0 0]) ?_ 0 _ rfl; exact p1)
            | (with_reducible refine blk_far (blk_far (blk_far ?_ ?_ _) ?_ _) ?_ _; (refine blk_put (cs := #[.slice C0 P2.length e0, .slice none 0 0]) ?_ 1 _ rfl; refine blk_put (cs := #[.slice none 0 0, .slice none 0 0]) ?_ 0 _ rfl; exact p2); all_goals (dsimp only; omega))
            | (with_reducible refine blk_far (blk_far (blk_far ?_ ?_ _) ?_ _) ?_ _; (refine blk_put (cs := #[.slice C0 P2.length e0, .slice none 0 0]) ?_ 1 _ rfl; refine blk_put (cs := #[.slice none 0 0, .slice none 0 0]) ?_ 0 _ rfl; exact p1); all_goals (dsimp only; omega))
        · first
            | with_reducible exact nr1 hbwr hNN.out
            | with_reducible exact nr2 hbwr hNN.out
            | with_reducible exact nr3 hbwr hNN.out
            | with_reducible exact nr4 hbwr hNN.out
            | with_reducible exact nr5 hbwr hNN.out
            | with_reducible exact nr6 hbwr hNN.out
            | exact nr3 hbwr hNN.out
            | exact nr5 hbwr hNN.out
            | exact nr4 hbwr hNN.out
            | exact nr6 hbwr hNN.out)
    · have hjl : j = l.length := by omega
      have r0 : wr.cell? ⟨w.heap.size + 1, 0, none⟩ = some (.slice none 0 0) := (blk_cell HA.out.res 0).trans rfl
      have r1 : wr.cell? ⟨w.heap.size + 1, 1, none⟩ = some (.slice none 0 0) := (blk_cell HA.out.res 1).trans rfl
      have r2 := blk_frozen HA.out.res 0
      have r3 := blk_frozen HA.out.res 1
      have hlt2 : ¬ ((j : Int) < (l.length : Int)) := by omega
      have HJ := Lib.hid hjl
      clear hjl hlt hj
      go_wp2_with fail
      have hf := HF.out
      rw [HJ.out, List.drop_eq_nil_of_le (Nat.le_refl _), List.foldl_nil] at hf
      refine bodyPost_ret (results_cell_row rfl _ _ (w.heap.size + 1) 25 #[.slice B0 Q.length d0, .slice B1 N.length d1] (0, 0) _ rfl (blk_set (blk_set HA.out.res 0 _) 1 _) Try.underlying25 rfl (by kernel_rfl)) rfl ?_
      rw [← hf]
      exact ⟨B0, d0, B1, d1, rfl, (HA.out.row.set HA.out.res (by decide) (by decide) 0 _).set (blk_set HA.out.res 0 _) (by decide) (by decide) 1 _, below_set (below_set HA.out.bel (by simp)) (by simp)⟩
end Go.Proofs.Ytlaheldjlfckkaa.A

/- What choose.visit does: the walk. -/
import Derived.Test.YtjblknlmjklkgaaHPure
import Derived.Test.YtjblknlmjklkgaaHWords
import Derived.Test.YtjblknlmjklkgaaHClone
import Derived.Tactics
import Derived.Tactics2
import Derived.Deep.RegionHeld3
import Derived.Lib.Hide
import Derived.IntWalk
import Derived.Deep.DeepCutAuto
namespace Go.Proofs.Ytjblknlmjklkgaa.A
open Go.RowKit Go.Proofs.YtjblknlmjklkgaaW.PrintWords Go.Proofs.YtjblknlmjklkgaaW.PrintLast Go.Proofs.YtjblknlmjklkgaaW.PrintMore
set_option linter.unusedVariables false
set_option linter.unusedSimpArgs false

/-- What a search holds: its state in block g, the best choice so far in a row of its own, the choice v that is read. -/
structure Srch (w0 w : World) (g : Nat) (A : Option Addr) (c : Nat) (l : List S42) (v : Value) (cs : List Int) (st : List Int × Int) (bv : Value) : Prop where
  below : Below w0.heap.size w0 w
  size : w0.heap.size ≤ g
  state : w.heap[g]? = some (.cells #[.slice A l.length c, bv, .int .i64 st.2] 49 (0, 0))
  best : w.ownsRow w0.heap.size 3 1 bv st.1.length (nums .i64 st.1)
  row : w.ownsRow w0.heap.size 3 1 v cs.length (nums .i64 cs)
  apart : bv.ownBlock = none ∨ bv.ownBlock ≠ v.ownBlock

/-- What is new, or as it was. -/
def Later (w : World) (bv bv' : Value) : Prop := bv'.ownBlock = bv.ownBlock ∨ ∀ k, bv'.ownBlock = some k → w.heap.size ≤ k

/-- What became of the world. -/
structure Moved (w w' : World) (g : Nat) (v bv bv' : Value) : Prop where
  size : w.heap.size ≤ w'.heap.size
  other : ∀ k, k < w.heap.size → k ≠ g → some k ≠ v.ownBlock → w'.heap[k]? = w.heap[k]?
  later : Later w bv bv'

def Post (w0 w : World) (g : Nat) (A : Option Addr) (c : Nat) (l : List S42) (v : Value) (cs : List Int) (bv : Value) (st : List Int × Int) (e : Ending) (w' : World) : Prop :=
  e = .returned (.tuple #[]) ∧ ∃ bv', Srch w0 w' g A c l v cs st bv' ∧ Moved w w' g v bv bv'

def Items (l : List S42) : Prop := l.length ≤ 12 ∧ ∀ i : Int, 0 ≤ (rd_T42 l i).f0 ∧ (rd_T42 l i).f0 ≤ 1000000000 ∧ 0 ≤ (rd_T42 l i).f1 ∧ (rd_T42 l i).f1 ≤ 1000000000 ∧ 0 ≤ (rd_T42 l i).f2 ∧ (rd_T42 l i).f2 ≤ 1000000000

theorem R_int_own {w : World} {base : Nat} {ok : Nat → Prop} {v : Value} {xs : List Int} (h : Kd.R (Kd.int .i64) 3 w base ok v xs) : w.ownsRow base 3 1 v xs.length (nums .i64 xs) := by
  obtain ⟨_, inner, ho, hr⟩ := h
  have e : inner = nums .i64 xs := by
    refine List.ext_getElem? fun j => ?_
    rcases Nat.lt_or_ge j xs.length with hj | hj
    · have h1 : (inner.drop (j * 1)).take 1 = [Value.int .i64 xs[j]] := hr.2 j _ (List.getElem?_eq_getElem hj)
      have hl : j < inner.length := by have h3 := hr.1; rw [show (Kd.int .i64).sz = 1 from rfl] at h3; omega
      rw [Nat.mul_one, List.drop_eq_getElem_cons hl] at h1
      simp only [List.take_succ_cons, List.take_zero, List.cons.injEq, and_true] at h1
      rw [List.getElem?_eq_getElem hl, h1]
      simp [nums, hj]
    · have h3 := hr.1
      rw [show (Kd.int .i64).sz = 1 from rfl] at h3
      rw [List.getElem?_eq_none (by omega), List.getElem?_eq_none (by simp [nums]; omega)]
  rw [← e]
  exact ho
theorem own_R_int {w : World} {base : Nat} {v : Value} {xs : List Int} (h : w.ownsRow base 3 1 v xs.length (nums .i64 xs)) : Kd.R (Kd.int .i64) 3 w base (fun _ => True) v xs := by
  refine ⟨fun _ _ => trivial, nums .i64 xs, h, by simp [nums, show (Kd.int .i64).sz = 1 from rfl], fun j p hj => ?_⟩
  have hj2 : j < xs.length := by
    rcases Nat.lt_or_ge j xs.length with h | h
    · exact h
    · rw [List.getElem?_eq_none h] at hj; cases hj
  rw [List.getElem?_eq_getElem hj2] at hj
  cases hj
  show ((nums .i64 xs).drop (j * 1)).take 1 = [Value.int .i64 xs[j]]
  rw [Nat.mul_one, List.drop_eq_getElem_cons (by simp [nums]; omega)]
  simp [nums]

/-- Behind the clone and the two stores. -/
theorem Srch.stored {w0 w w1 : World} {g : Nat} {A : Option Addr} {c : Nat} {l : List S42} {v bv bv1 : Value} {cs : List Int} {st : List Int × Int} (H : Srch w0 w g A c l v cs st bv) (worth : Int)
    (hb : Below w.heap.size w w1) (hr : Kd.R (Kd.int .i64) 3 w1 w.heap.size (fun _ => True) bv1 cs) :
    Srch w0 ((w1.setCell ⟨g, 1, none⟩ bv1).setCell ⟨g, 2, none⟩ (.int .i64 worth)) g A c l v cs (cs, worth) bv1 ∧ Moved w ((w1.setCell ⟨g, 1, none⟩ bv1).setCell ⟨g, 2, none⟩ (.int .i64 worth)) g v bv bv1 := by
  have hg : g < w.heap.size := blk_lt H.state
  have hs1 : w1.heap[g]? = some (.cells #[.slice A l.length c, bv, .int .i64 st.2] 49 (0, 0)) := (hb.block g hg).trans H.state
  have hown := R_int_own hr
  have hlt : ∀ k, bv1.ownBlock = some k → w.heap.size ≤ k ∧ k < w1.heap.size := hown.lt
  have hvlt : ∀ k, v.ownBlock = some k → w0.heap.size ≤ k ∧ k < w.heap.size := H.row.lt
  have hgv : some g ≠ v.ownBlock := own_ne H.row H.state (by decide)
  have hgb : some g ≠ bv1.ownBlock := own_ne hown hs1 (by decide)
  have hrow1 : w1.ownsRow w0.heap.size 3 1 v cs.length (nums .i64 cs) := pw_own_below H.row hb
  refine ⟨⟨?_, H.size, ?_, ?_, ?_, ?_⟩, ⟨?_, ?_, ?_⟩⟩
  · exact below_set (below_set (below_weaken H.below H.below.size hb) H.size) H.size
  · exact blk_set (blk_set hs1 1 bv1) 2 _
  · exact own_setCell (own_setCell (own_weaken hown H.below.size) hgb _) hgb _
  · exact own_setCell (own_setCell hrow1 hgv _) hgv _
  · cases hv : bv1.ownBlock with
    | none => exact .inl rfl
    | some k =>
      right
      intro e
      have := (hlt k hv).1
      have := (hvlt k e.symm).2
      omega
  · have := hb.size
    simp [World.setCell]
    exact this
  · intro k hk hkg _
    exact (Below.heap_setCell _ _ _ k hkg).trans ((Below.heap_setCell _ _ _ k hkg).trans (hb.block k hk))
  · exact .inr fun k hk => (hlt k hk).1

/-- What is appended to, and what the search behind it leaves. -/
theorem Srch.pushed {w0 w w1 w2 : World} {g : Nat} {A : Option Addr} {c : Nat} {l : List S42} {v bv v' : Value} {cs : List Int} {st : List Int × Int} {i : Int} (H : Srch w0 w g A c l v cs st bv)
    (hb : Below w.heap.size w w1) (hg : w1.grownBy w2 v.ownBlock) (hr' : w2.ownsRow w0.heap.size 3 1 v' (cs.length + 1) (nums .i64 cs ++ [.int .i64 i]))
    (hat : v'.ownBlock = v.ownBlock ∨ ∃ h, v'.ownBlock = some h ∧ w.heap.size ≤ h) : Srch w0 w2 g A c l v' (cs ++ [i]) st bv := by
  have hgl : g < w.heap.size := blk_lt H.state
  have hgv : some g ≠ v.ownBlock := own_ne H.row H.state (by decide)
  have hvlt : ∀ k, v.ownBlock = some k → w0.heap.size ≤ k ∧ k < w.heap.size := H.row.lt
  have hblt : ∀ k, bv.ownBlock = some k → w0.heap.size ≤ k ∧ k < w.heap.size := H.best.lt
  have hB1 : Below w0.heap.size w0 w1 := below_weaken H.below H.below.size hb
  refine ⟨pw_below_grown hB1 _ hB1.size hg (fun k hk => (hvlt k hk).1), H.size, ?_, ?_, ?_, ?_⟩
  · exact blk_grown (blk_below H.state hb) hg hgv
  · exact own_other (pw_own_below H.best hb) hg H.apart
  · have e : nums .i64 (cs ++ [i]) = nums .i64 cs ++ [.int .i64 i] := by simp [nums]
    rw [e, List.length_append, List.length_singleton]
    exact hr'
  · rcases hat with hat | ⟨h, hat, hh⟩
    · rw [hat]; exact H.apart
    · rw [hat]
      cases hv : bv.ownBlock with
      | none => exact .inl rfl
      | some k =>
        right
        intro e
        have := (hblt k hv).2
        cases e
        omega

theorem Srch.popped {w0 w w1 w2 w3 : World} {g : Nat} {A : Option Addr} {c : Nat} {l : List S42} {v bv v' bv' : Value} {cs : List Int} {st st' : List Int × Int} {i : Int} (H : Srch w0 w g A c l v cs st bv)
    (hb : Below w.heap.size w w1) (hg : w1.grownBy w2 v.ownBlock) (hr' : w2.ownsRow w0.heap.size 3 1 v' (cs.length + 1) (nums .i64 cs ++ [.int .i64 i])) (hr : w2.ownsRow w0.heap.size 3 1 v cs.length (nums .i64 cs))
    (hat : v'.ownBlock = v.ownBlock ∨ ∃ h, v'.ownBlock = some h ∧ w.heap.size ≤ h) (K : Srch w0 w3 g A c l v' (cs ++ [i]) st' bv') (M : Moved w2 w3 g v' bv bv') :
    Srch w0 w3 g A c l v cs st' bv' ∧ Moved w w3 g v bv bv' := by
  have hgl : g < w.heap.size := blk_lt H.state
  have hvlt : ∀ k, v.ownBlock = some k → w0.heap.size ≤ k ∧ k < w.heap.size := H.row.lt
  have h12 : w.heap.size ≤ w2.heap.size := Nat.le_trans hb.size hg.size
  have hst2 : w2.heap[g]? = some (.cells #[.slice A l.length c, bv, .int .i64 st.2] 49 (0, 0)) := blk_grown (blk_below H.state hb) hg (own_ne H.row H.state (by decide))
  have hrow : w3.ownsRow w0.heap.size 3 1 v cs.length (nums .i64 cs) := by
    rcases hat with hat | ⟨h, hat, hh⟩
    · have hk := K.row
      have e : nums .i64 (cs ++ [i]) = nums .i64 cs ++ [.int .i64 i] := by simp [nums]
      rw [e, List.length_append, List.length_singleton] at hk
      exact own_within hr hr' (Nat.le_succ _) hat hk
    · refine own_move hr fun k hk => ?_
      have h1 := (hvlt k hk).2
      refine M.other k (by omega) ?_ ?_
      · rintro rfl
        exact own_ne hr hst2 (by decide) hk.symm
      · rw [hat]
        intro e
        cases e
        omega
  refine ⟨⟨K.below, H.size, K.state, K.best, hrow, ?_⟩, ⟨Nat.le_trans h12 M.size, ?_, ?_⟩⟩
  · rcases M.later with hl | hl
    · rw [hl]; exact H.apart
    · cases hv : bv'.ownBlock with
      | none => exact .inl rfl
      | some k =>
        right
        intro e
        have := hl k hv
        have := (hvlt k e.symm).2
        omega
  · intro k hk hkg hkv
    refine (M.other k (by omega) hkg ?_).trans ((hg.block k (Nat.lt_of_lt_of_le hk hb.size) hkv).trans (hb.block k hk))
    rcases hat with hat | ⟨h, hat, hh⟩
    · rw [hat]; exact hkv
    · rw [hat]
      intro e
      cases e
      omega
  · rcases M.later with hl | hl
    · exact .inl hl
    · exact .inr fun k hk => Nat.le_trans h12 (hl k hk)

theorem Moved.trans {w w1 w2 : World} {g : Nat} {v bv bv1 bv2 : Value} (h : Moved w w1 g v bv bv1) (k : Moved w1 w2 g v bv1 bv2) : Moved w w2 g v bv bv2 := by
  refine ⟨Nat.le_trans h.size k.size, fun j hj hg hv => (k.other j (Nat.lt_of_lt_of_le hj h.size) hg hv).trans (h.other j hj hg hv), ?_⟩
  rcases k.later with hl | hl
  · rcases h.later with hm | hm
    · exact .inl (hl.trans hm)
    · exact .inr fun j hj => hm j (hl ▸ hj)
  · exact .inr fun j hj => Nat.le_trans h.size (hl j hj)
theorem Moved.cell {w w1 : World} {g : Nat} {v bv bv1 : Value} (h : Moved w w1 g v bv bv1) (a : Addr) (h1 : a.block < w.heap.size) (h2 : a.block ≠ g) (h3 : some a.block ≠ v.ownBlock) : w1.cell? a = w.cell? a :=
  World.cell?_of_block (h.other a.block h1 h2 h3)
theorem ne_at {v v1 : Value} {X k : Nat} (h : v1.ownBlock = v.ownBlock ∨ v1.ownBlock = some k) (h1 : some X ≠ v.ownBlock) (h2 : X < k) : some X ≠ v1.ownBlock := by
  rcases h with h | h
  · rw [h]; exact h1
  · rw [h]
    intro e
    cases e
    omega
theorem Srch.stay {w0 w w1 : World} {g : Nat} {A : Option Addr} {c : Nat} {l : List S42} {v bv : Value} {cs : List Int} {st : List Int × Int} (H : Srch w0 w g A c l v cs st bv) (hb : Below w.heap.size w w1) :
    Srch w0 w1 g A c l v cs st bv ∧ Moved w w1 g v bv bv :=
  ⟨⟨below_weaken H.below H.below.size hb, H.size, blk_below H.state hb, pw_own_below H.best hb, pw_own_below H.row hb, H.apart⟩, ⟨hb.size, fun k hk _ _ => hb.block k hk, .inl rfl⟩⟩
theorem Moved.refl (w : World) (g : Nat) (v bv : Value) : Moved w w g v bv bv := ⟨Nat.le_refl _, fun _ _ _ _ => rfl, .inl rfl⟩

/-- Where the loop begins. -/
def Start (w0 w wx : World) (g : Nat) (A : Option Addr) (c : Nat) (l : List S42) (v : Value) (cs : List Int) (st : List Int × Int) (bv : Value) : Prop :=
  ∃ bv', Srch w0 wx g A c l v cs st bv' ∧ Moved w wx g v bv bv'
/-- At the head of a round: m items are left. -/
def Rel (w0 w wr : World) (g : Nat) (A : Option Addr) (c : Nat) (l : List S42) (v : Value) (cs : List Int) (bv : Value) (a b worth : Int) (fin : List Int × Int) (n : Nat) (j : Value) : Prop :=
  ∃ (m : Nat) (st : List Int × Int) (bv' : Value), m ≤ n ∧ j = .int .i64 ((l.length : Int) - m) ∧ loopP l m cs ((l.length : Int) - m) a b worth st = fin ∧ Srch w0 wr g A c l v cs st bv' ∧ Moved w wr g v bv bv'

theorem clone_f (cs : List Int) (h : cs.length ≤ 12) : slices_Clone_int_int.f cs = some cs := by
  unfold slices_Clone_int_int.f
  simp
  omega

set_option maxHeartbeats 3200000 in
set_option maxRecDepth 100000 in
theorem visit_calls (w0 : World) (A : Option Addr) (c : Nat) (l : List S42) (hI : Items l) (hr : Kd.C k42 w0 A l.length l) (n : Nat) :
    ∀ (w : World) (g : Nat) (v bv : Value) (cs : List Int) (st : List Int × Int) (i a b worth : Int), 0 ≤ i → i + n = l.length → cs.length + n ≤ 12 → 0 ≤ a → a ≤ 9223372036854775807 → 0 ≤ b → b ≤ 9223372036854775807 →
      0 ≤ worth → worth + 1000000000 * n ≤ 12000000000 → Srch w0 w g A c l v cs st bv →
      Calls Try.prog 24 #[.pointer (some ⟨g, 0, none⟩), v, .int .i64 i, .int .i64 a, .int .i64 b, .int .i64 worth] w
        (Post w0 w g A c l v cs bv (loopP l n cs i a b worth (upd cs worth st))) := by
  induction n using Nat.strongRecOn with
  | ind n ih =>
    intro w g v bv cs st i a b worth hi0 hin hcs ha0 ha1 hb0 hb1 hw0 hw1 H
    have h1 : w.cell? ⟨g, 1, none⟩ = some bv := by simp [World.cell?, H.state]
    have h2 : w.cell? ⟨g, 2, none⟩ = some (.int .i64 st.2) := by simp [World.cell?, H.state]
    have HH := Lib.hid H
    have IH := Lib.hid ih
    have HN := Lib.hid hin
    clear H ih hin
    have HI := Lib.hid hI
    clear hI
    go_enter Try.func24, Try.ntmps24
    go_upto_if 19 with (fail)
    go_cut [] (fun wx => Start w0 w wx g A c l v cs (upd cs worth st) bv)
    case first =>
      by_cases hm : st.2 < worth
      · have hu : upd cs worth st = (cs, worth) := by unfold upd; rw [if_pos hm]
        have HU := Lib.hid hu
        obtain ⟨A', c', hv, hcl, hcr⟩ := Kd.R_reads (own_R_int HH.out.row)
        obtain rfl := hv
        have HC := Lib.hid hcr
        have hf := clone_f cs (by omega)
        have HF := Lib.hid hf
        clear hcr hf hu
        go_wp2_with fail
        refine (slices_Clone_int_int.calls _ _ cs cs _ HC.out hcl HF.out).mono ?_
        rintro e w1 ⟨bv1, rfl, hr1, hb1⟩
        have hs1 := blk_below HH.out.state hb1
        have g1 : w1.cell? ⟨g, 1, none⟩ = some bv := (blk_cell hs1 1).trans rfl
        have g2 : w1.cell? ⟨g, 2, none⟩ = some (.int .i64 st.2) := (blk_cell hs1 2).trans rfl
        have g3 : w1.frozen? ⟨g, 1, none⟩ = false := blk_frozen hs1 1
        have g4 : w1.frozen? ⟨g, 2, none⟩ = false := blk_frozen hs1 2
        have HS := Lib.hid (HH.out.stored worth hb1 hr1)
        obtain ⟨A1, c1, rfl⟩ := Kd.R_slice hr1
        clear hr1 hb1 hs1
        go_wp2_with fail
        go_meet
        rw [HU.out]
        exact ⟨_, HS.out.1, HS.out.2⟩
      · have hu : upd cs worth st = st := by unfold upd; rw [if_neg hm]
        have HU := Lib.hid hu
        clear hu
        go_wp2_with fail
        go_meet
        rw [HU.out]
        exact ⟨_, HH.out, Moved.refl _ _ _ _⟩
    case rest =>
      clear h1 h2
      have HST := Lib.hid hcut
      clear hcut
      go_wp2_with fail
      go_loopw [12] (fun j wr => Rel w0 w wr g A c l v cs bv a b worth (loopP l n cs i a b worth (upd cs worth st)) n j) (fun j _ => l.length - (intOf j).toNat)
      case atStart =>
        obtain ⟨bv', h1, h2⟩ := HST.out
        exact ⟨n, _, bv', Nat.le_refl _, by have := HN.out; congr 1; omega, by have := HN.out; rw [show ((l.length : Int) - (n : Int)) = i by omega], h1, h2⟩
      case round =>
        obtain ⟨m, st1, bv1, hm, hj, hfin, HS1, HM1⟩ := hrel
        have k0 : wr.cell? ⟨g, 0, none⟩ = some (.slice A l.length c) := (blk_cell HS1.state 0).trans rfl
        cases m with
        | zero =>
          have hj2 : u12 = .int .i64 (l.length : Int) := by rw [hj]; simp
          subst hj2
          have e1 : st1 = loopP l n cs i a b worth (upd cs worth st) := by rw [← hfin]; simp [loopP]
          have E1 := Lib.hid e1
          have H1 := Lib.hid HS1
          have H2 := Lib.hid HM1
          clear e1 HS1 HM1 hfin hj
          go_wp2_with fail
          go_end0
          exact ⟨rfl, bv1, by rw [← E1.out]; exact H1.out, H2.out⟩
        | succ m =>
          obtain ⟨j, hj0⟩ : ∃ j : Int, j = (l.length : Int) - ((m + 1 : Nat) : Int) := ⟨_, rfl⟩
          have hN := HN.out
          have hj1 : 0 ≤ j := by omega
          have hj2 : j < (l.length : Int) := by omega
          have hj3 : j ≤ 12 := by have := HI.out.1; omega
          have hu : u12 = .int .i64 j := by rw [hj, hj0]
          subst hu
          rw [← hj0] at hfin
          have hj4 : j + 1 = (l.length : Int) - (m : Int) := by omega
          have HJ := Lib.hid hj4
          have HFIN := Lib.hid hfin
          clear hfin hj hj0 hj4 hN
          obtain ⟨ad, eA, x0, x1, x2⟩ := at_T42 hr j hj1 hj2
          subst eA
          obtain ⟨x, hx⟩ : ∃ x, x = rd_T42 l j := ⟨_, rfl⟩
          rw [← hx] at x0 x1 x2
          have hxb := HI.out.2 j
          rw [← hx] at hxb
          have HX := Lib.hid hx
          clear hx
          replace x0 := (HS1.below.cell (World.block_lt_of_cell? w0 _ x0)).trans x0
          replace x1 := (HS1.below.cell (World.block_lt_of_cell? w0 _ x1)).trans x1
          replace x2 := (HS1.below.cell (World.block_lt_of_cell? w0 _ x2)).trans x2
          obtain ⟨f0, f1, f2⟩ := x
          dsimp only at x0 x1 x2 hxb
          obtain ⟨q0, q1, q2, q3, q4, q5⟩ := hxb
          have H1 := Lib.hid HS1
          have H2 := Lib.hid HM1
          clear HS1 HM1
          have hbl := Below.alloc (Below.refl wr.heap.size wr) (Nat.le_refl _) (.cells #[.int .i64 f0, .int .i64 f1, .int .i64 f2] 42)
          have HB := Lib.hid hbl
          clear hbl
          by_cases cA : f0 ≤ a
          · by_cases cB : f1 ≤ b
            · go_wp2_with fail
              obtain ⟨i0, hi0, hz0, hz1, hz2⟩ := info_parts info3
              have y0 : (wr.alloc (.cells #[.int .i64 f0, .int .i64 f1, .int .i64 f2] 42)).cell? ⟨wr.heap.size, 0, none⟩ = some (.int .i64 f0) := blk_cell (blk_new _ _) 0
              have y1 : (wr.alloc (.cells #[.int .i64 f0, .int .i64 f1, .int .i64 f2] 42)).cell? ⟨wr.heap.size, 1, none⟩ = some (.int .i64 f1) := blk_cell (blk_new _ _) 1
              have y2 : (wr.alloc (.cells #[.int .i64 f0, .int .i64 f1, .int .i64 f2] 42)).cell? ⟨wr.heap.size, 2, none⟩ = some (.int .i64 f2) := blk_cell (blk_new _ _) 2
              have yl : wr.heap.size < (wr.alloc (.cells #[.int .i64 f0, .int .i64 f1, .int .i64 f2] 42)).heap.size := by simp
              obtain ⟨X, hX⟩ : ∃ X, X = wr.heap.size := ⟨_, rfl⟩
              rw [← hX] at y0 y1 y2 yl ⊢
              have hv : v.ownBlock ≠ some X := fun e => by have := (H1.out.row.lt X e).2; omega
              have hXg : X ≠ g := fun e => by have := blk_lt H1.out.state; omega
              have hXX := Lib.hid hX
              clear hX
              have hown0 := pw_own_below H1.out.row HB.out
              generalize wr.alloc (.cells #[.int .i64 f0, .int .i64 f1, .int .i64 f2] 42) = w1 at *
              have hsz : w0.heap.size ≤ w1.heap.size := Nat.le_trans H1.out.below.size HB.out.size
              have hv2 : some X ≠ v.ownBlock := Ne.symm hv
              have b1 : m < n := by omega
              have b2 : 0 ≤ j + 1 := by omega
              have b3 : j + 1 + (m : Int) = (l.length : Int) := by have := HJ.out; omega
              have b4 : (cs ++ [j]).length + m ≤ 12 := by simp; omega
              have b5 : 0 ≤ a - f0 := by omega
              have b6 : a - f0 ≤ 9223372036854775807 := by omega
              have b7 : 0 ≤ b - f1 := by omega
              have b8 : b - f1 ≤ 9223372036854775807 := by omega
              have b9 : 0 ≤ worth + f2 := by omega
              have b10 : worth + f2 + 1000000000 * (m : Int) ≤ 12000000000 := by omega
              have o1 : cs.length + 1 ≤ maxLen := by unfold maxLen; omega
              have o2 : (cs.length + 1) * 8 ≤ 140737488355328 := by omega
              have o3 : ∀ u ∈ [Value.int .i64 j], u.oneCell' = true := by simp [Value.oneCell']
              have O3 := Lib.hid o3
              have B3 := Lib.hid b3
              have e1 : IntKind.i64.wrap (j + 1) = j + 1 := IntWalk.i64_in _ (by omega)
              have e2 : IntKind.i64.wrap (a - f0) = a - f0 := IntWalk.i64_in _ (by omega)
              have e3 : IntKind.i64.wrap (b - f1) = b - f1 := IntWalk.i64_in _ (by omega)
              have e4 : IntKind.i64.wrap (worth + f2) = worth + f2 := IntWalk.i64_in _ (by omega)
              clear o3 b3
              go_region_held3 (fun w' => w'.cell? ⟨X, 0, none⟩ = some (.int .i64 f0) ∧ w'.cell? ⟨X, 1, none⟩ = some (.int .i64 f1) ∧ w'.cell? ⟨X, 2, none⟩ = some (.int .i64 f2))
                (first
                  | go_keep
                  | (go_split_ands
                     refine ⟨?_, ?_, ?_⟩
                     · (rw [hgrow.cell_far _ (by simp; exact Nat.lt_succ_of_lt yl) hv2]; assumption)
                     · (rw [hgrow.cell_far _ (by simp; exact Nat.lt_succ_of_lt yl) hv2]; assumption)
                     · (rw [hgrow.cell_far _ (by simp; exact Nat.lt_succ_of_lt yl) hv2]; assumption))
                  | (go_split_ands
                     have hxx := ne_at hat hv2 (Nat.lt_succ_of_lt yl)
                     have hxl := Nat.lt_of_lt_of_le yl (Nat.le_of_succ_le (show w1.heap.size + 1 ≤ _ by simpa using hgrow.size))
                     refine ⟨?_, ?_, ?_⟩
                     · (rw [hm2.cell _ hxl hXg hxx]; assumption)
                     · (rw [hm2.cell _ hxl hXg hxx]; assumption)
                     · (rw [hm2.cell _ hxl hXg hxx]; assumption)))
                (first
                  | (refine step_append_both (by rfl) _ _ _ (by rfl) w0.heap.size 3 i0 _ 1 8 Try.underlying27 hi0 hz0 hz1 hz2 rfl (Nat.one_pos) v cs.length (nums .i64 cs) (by rfl) ((own_alloc hown0 _).drew)
                      ⟨w1.heap.size, 0, none⟩ 1 1 [.int .i64 j] (by rfl) (by rfl) (World.news_of_block (cs := #[.int .i64 j]) (t := 3) (fr := (0, 0)) (heap_alloc_new w1 _)) O3.out
                      (Nat.one_pos) o1 o2 (by simp; exact Nat.le_succ_of_le hsz) (w1.heap.size + 1) (by simp) ?_; intro v1 w2 hown1 hown2 hgrow hat)
                  | (go_at_call 24; refine (IH.out m b1 _ g v1 bv1 (cs ++ [j]) st1 (j + 1) (a - f0) (b - f1) (worth + f2) b2 B3.out b4 b5 b6 b7 b8 b9 b10 (H1.out.pushed (below_alloc HB.out _).drew hgrow hown1 (hat.imp id fun e => ⟨_, e, Nat.le_succ_of_le HB.out.size⟩))).mono ?_; rintro e w3 ⟨rfl, bv2, hs2, hm2⟩))
              clear e1 e2 e3 e4
              have HP := Lib.hid (H1.out.popped (below_alloc HB.out _).drew hgrow hown1 hown2 (hat.imp id fun e => ⟨_, e, Nat.le_succ_of_le HB.out.size⟩) hs2 hm2)
              clear hs2 hm2 hgrow hown1 hown2 hat y0 y1 y2
              go_wp2_with fail
              go_roundw
              case rel => exact ⟨m, _, bv2, by omega, by rw [← HJ.out], by rw [← HJ.out, ← HFIN.out]; simp only [loopP]; rw [← HX.out, if_pos ⟨cA, cB⟩], HP.out.1, H2.out.trans HP.out.2⟩
              case measure => simp [intOf]; omega
            · go_wp2_with fail
              go_roundw
              case rel => exact ⟨m, st1, bv1, by omega, by rw [← HJ.out], by rw [← HJ.out, ← HFIN.out]; simp only [loopP]; rw [← HX.out, if_neg (fun h => cB h.2)], (H1.out.stay HB.out).1, H2.out.trans (H1.out.stay HB.out).2⟩
              case measure => simp [intOf]; omega
          · go_wp2_with fail
            go_roundw
            case rel => exact ⟨m, st1, bv1, by omega, by rw [← HJ.out], by rw [← HJ.out, ← HFIN.out]; simp only [loopP]; rw [← HX.out, if_neg (fun h => cA h.1)], (H1.out.stay HB.out).1, H2.out.trans (H1.out.stay HB.out).2⟩
            case measure => simp [intOf]; omega
end Go.Proofs.Ytjblknlmjklkgaa.A

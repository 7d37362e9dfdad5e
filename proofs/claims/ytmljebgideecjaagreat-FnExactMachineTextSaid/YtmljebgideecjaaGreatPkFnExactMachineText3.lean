/- A part of the proof of the law FnExactMachineText: texts of this seat, merged (words, printed functions of the program, plain lemmas). Conditions: none of its own. -/
import Derived.Shelf.Strings.Builder1
import Derived.Shelf.Strings.Builder2
import Derived.Shelf.Strings.OnBuilder
import Derived.Shelf.Strings.BuilderF
import Derived.Shelf.Strings.BuilderK
import Derived.Shelf.Strings.Builder2Cap
import Derived.Shelf.Strings.BuilderCap
import Derived.Shelf.Slices.Turned
import Derived.Shelf.Slices.Equal
import Derived.Ground.Names2Prog
import Derived.Shelf.Slices.Clone
import Derived.Shelf.Slices.Empties2
import Derived.Ground.SlgnProg
import Derived.Shelf.SlicesE.Clone
import Derived.Test.YtmljebgideecjaaGreatProg
import Derived.Test.YtmljebgideecjaaGreatPkFnExactMachineText2
namespace Go.Proofs.YtmljebgideecjaaGreat.P
open Go.Proofs.YtmljebgideecjaaGreatZ Go.RowKit Go.Proofs.YtmljebgideecjaaGreatW.PrintWords Go.Proofs.YtmljebgideecjaaGreatW.PrintLast Go.Proofs.YtmljebgideecjaaGreatW.PrintMore
attribute [local go_sem] max2_int min2_int max_two min_two max_three min_three max_four min_four   -- for this text's walks alone
set_option linter.unusedVariables false
set_option linter.unusedSimpArgs false
def laws_eqHelpS.l0 : Nat → List (S174) → List (S174) → Int → Option (Bool)
  | 0, _, _, _ => none
  | k + 1, x0, x1, x5 => if x5 < (x0.length : Int) then (if 0 ≤ x5 then (if x5 < (x1.length : Int) then ((laws_eqHelp.f ((rd_T174 x0 x5).f0) ((rd_T174 x0 x5).f1) ((rd_T174 x0 x5).f2) ((rd_T174 x0 x5).f3) ((rd_T174 x1 x5).f0) ((rd_T174 x1 x5).f1) ((rd_T174 x1 x5).f2) ((rd_T174 x1 x5).f3)).bind fun t103 => (if t103 = true then (laws_eqHelpS.l0 k x0 x1 (wrap64 (x5 + 1))) else (some false))) else (none)) else (none)) else (some true)
def laws_eqHelpS.f (k : Nat) (l0 : List (S174)) (l1 : List (S174)) : Option (Bool) := if (l0.length : Int) = (l1.length : Int) then (laws_eqHelpS.l0 k l0 l1 0) else (some false)
def laws_eqHelpS.T6 : Bool × List (List Nat × List Nat) := (true, [([], []), ([], []), ([0, 1], [0, 1]), ([2], [2]), ([], []), ([], []), ([4, 5], [4, 5]), ([6], [6]), ([3, 7], [3, 7]), ([8], [8])])
def laws_eqHelpS.B6 : List Nat := [0, 0, 3, 7, 0, 0, 48, 112, 255, 511]
theorem laws_eqHelpS.tab6 : rtab .any (opsOf Tryz.f189 6) = laws_eqHelpS.T6 := by kernel_rfl
theorem laws_eqHelpS.bits6 : waitsOk laws_eqHelpS.T6.2 laws_eqHelpS.B6 = true := by kernel_rfl
set_option maxHeartbeats 8000000 in
set_option maxRecDepth 100000 in
theorem laws_eqHelpS.calls (k : Nat) (A0 : Option Addr) (c0 : Nat) (l0 : List (S174)) (A1 : Option Addr) (c1 : Nat) (l1 : List (S174)) (r : Bool) (w : World) (hr0 : Kd.C k174 w A0 l0.length l0) (hc0 : l0.length ≤ c0) (hr1 : Kd.C k174 w A1 l1.length l1) (hc1 : l1.length ≤ c1) (h : laws_eqHelpS.f k l0 l1 = some r) :
    Calls Tryz.prog 189 #[.slice A0 l0.length c0, .slice A1 l1.length c1] w fun e w' => e = .returned (.bool r) ∧ Below w.heap.size w w' := by
  have hu174 := Tryz.underlying174
  have HR0 := Aside0.mk hr0
  have HC0 := Aside0.mk hc0
  clear hr0 hc0
  have HR1 := Aside0.mk hr1
  have HC1 := Aside0.mk hc1
  clear hr1 hc1
  have HB := Aside0.mk (Below.refl w.heap.size w)
  have H := h
  unfold laws_eqHelpS.f at H
  clear h
  go_enter Tryz.func189, Tryz.ntmps189
  by_cases c3 : (l0.length : Int) = (l1.length : Int)
  · rw [if_pos c3] at H
    obtain ⟨c3b0, c3b1⟩ := eqT c3
    have c3b2 : (l0.length == l1.length) = true := by first | simpa using c3 | (simp at c3 ⊢; omega)
    clear c3
    have H' := Aside0.mk H
    clear H
    go_wp2
    go_loopg [5] k (fun kq v5 w' => ∃ (x5_1 : Int), v5 = .int .i64 x5_1 ∧ Aside0 (laws_eqHelpS.l0 kq l0 l1 x5_1 = some r) ∧ Aside0 (kq ≤ k) ∧ Aside0 (Below w.heap.size w w'))
    case atStart => exact ⟨(0), rS, H', ⟨Nat.le_refl _⟩, ⟨(hX HB.out)⟩⟩
    case round =>
      clear H'
      try clear c1
      try clear p2
      try clear c3
      try clear c3b0
      try clear c3b1
      try clear c3b2
      obtain ⟨x5_1, rfl, HA, HKy1, HB⟩ := hrel
      cases gk with
      | zero => exact absurd HA.out (by simp [laws_eqHelpS.l0])
      | succ k1 =>
        have H := HA.out
        clear HA
        simp only [laws_eqHelpS.l0] at H
        by_cases c4 : x5_1 < (l0.length : Int)
        · rw [if_pos c4] at H
          have c4b0 := decide_eq_true c4
          clear c4
          replace H := ifP H; obtain ⟨c5, H⟩ := H
          have c5b0 := decide_eq_true c5
          clear c5
          replace H := ifP H; obtain ⟨c6, H⟩ := H
          have c6b0 := decide_eq_true c6
          clear c6
          replace H := bE H; obtain ⟨t103, A7, H⟩ := H
          try go_wp2
          replace HB := Aside0.mk (below_drew1 HB.out)
          have px1 : 0 ≤ (x5_1 : Int) := of_decide_eq_true (by first | (with_reducible assumption) | assumption)
          have qx1 : x5_1 < (l0.length : Int) := of_decide_eq_true (by first | (with_reducible assumption) | assumption)
          obtain ⟨adx1, ex1, hxx1, hxx2, hxx3, hxx4⟩ := at_T174 HR0.out x5_1 px1 qx1
          have hwx1 := hxx4
          have hwx2 := hxx3
          have hwx3 := hxx2
          have hwx4 := hxx1
          cases ex1
          replace hxx1 := (HB.out.cell (World.block_lt_of_cell? w _ hxx1)).trans hxx1
          replace hxx2 := (HB.out.cell (World.block_lt_of_cell? w _ hxx2)).trans hxx2
          replace hxx3 := (HB.out.cell (World.block_lt_of_cell? w _ hxx3)).trans hxx3
          replace hxx4 := (HB.out.cell (World.block_lt_of_cell? w _ hxx4)).trans hxx4
          replace px1 := eq_true px1
          replace qx1 := eq_true qx1
          have px2 : 0 ≤ (x5_1 : Int) := of_decide_eq_true (by first | (with_reducible assumption) | assumption)
          have qx2 : x5_1 < (l1.length : Int) := of_decide_eq_true (by first | (with_reducible assumption) | assumption)
          obtain ⟨adx2, ex2, hxx5, hxx6, hxx7, hxx8⟩ := at_T174 HR1.out x5_1 px2 qx2
          have hwx5 := hxx8
          have hwx6 := hxx7
          have hwx7 := hxx6
          have hwx8 := hxx5
          cases ex2
          replace hxx5 := (HB.out.cell (World.block_lt_of_cell? w _ hxx5)).trans hxx5
          replace hxx6 := (HB.out.cell (World.block_lt_of_cell? w _ hxx6)).trans hxx6
          replace hxx7 := (HB.out.cell (World.block_lt_of_cell? w _ hxx7)).trans hxx7
          replace hxx8 := (HB.out.cell (World.block_lt_of_cell? w _ hxx8)).trans hxx8
          replace px2 := eq_true px2
          replace qx2 := eq_true qx2
          refine start_ (n := 10) (S := fun w' => w'.cell? (adx1.add ((x5_1).toNat * 4)) = some (.int .i64 ((rd_T174 l0 x5_1).f0)) ∧ w'.cell? ⟨(adx1.add ((x5_1).toNat * 4)).block, (adx1.add ((x5_1).toNat * 4)).off + 1, none⟩ = some (.int .i64 ((rd_T174 l0 x5_1).f1)) ∧ w'.cell? ⟨(adx1.add ((x5_1).toNat * 4)).block, (adx1.add ((x5_1).toNat * 4)).off + 2, none⟩ = some (.int .i64 ((rd_T174 l0 x5_1).f2)) ∧ w'.cell? ⟨(adx1.add ((x5_1).toNat * 4)).block, (adx1.add ((x5_1).toNat * 4)).off + 3, none⟩ = some (.int .i64 ((rd_T174 l0 x5_1).f3)) ∧ w'.cell? (adx2.add ((x5_1).toNat * 4)) = some (.int .i64 ((rd_T174 l1 x5_1).f0)) ∧ w'.cell? ⟨(adx2.add ((x5_1).toNat * 4)).block, (adx2.add ((x5_1).toNat * 4)).off + 1, none⟩ = some (.int .i64 ((rd_T174 l1 x5_1).f1)) ∧ w'.cell? ⟨(adx2.add ((x5_1).toNat * 4)).block, (adx2.add ((x5_1).toNat * 4)).off + 2, none⟩ = some (.int .i64 ((rd_T174 l1 x5_1).f2)) ∧ w'.cell? ⟨(adx2.add ((x5_1).toNat * 4)).block, (adx2.add ((x5_1).toNat * 4)).off + 3, none⟩ = some (.int .i64 ((rd_T174 l1 x5_1).f3))) (ds := []) (bm 10 0) (by kernel_rfl) rfl (by kernel_rfl) ⟨((HB.out.cell (World.block_lt_of_cell? w _ hwx4)).trans hwx4), ((HB.out.cell (World.block_lt_of_cell? w _ hwx3)).trans hwx3), ((HB.out.cell (World.block_lt_of_cell? w _ hwx2)).trans hwx2), ((HB.out.cell (World.block_lt_of_cell? w _ hwx1)).trans hwx1), ((HB.out.cell (World.block_lt_of_cell? w _ hwx8)).trans hwx8), ((HB.out.cell (World.block_lt_of_cell? w _ hwx7)).trans hwx7), ((HB.out.cell (World.block_lt_of_cell? w _ hwx6)).trans hwx6), ((HB.out.cell (World.block_lt_of_cell? w _ hwx5)).trans hwx5)⟩ (fun hHeld => ?_); refine with_tabW laws_eqHelpS.tab6 laws_eqHelpS.bits6 (fun HT_ HW_ => ?_)
          generalize wr.drew = wx1 at HB hxx1 hxx2 hxx3 hxx4 hxx5 hxx6 hxx7 hxx8 hHeld ⊢
          refine pZ 0 17 (bm 10 1) HT_.out ?_
          refine pZ 1 18 (bm 10 3) HT_.out ?_
          refine pZ 2 19 (bm 10 7) HT_.out ?_
          refine pZ 4 21 (bm 10 23) HT_.out ?_
          refine pZ 5 22 (bm 10 55) HT_.out ?_
          refine pZ 6 23 (bm 10 119) HT_.out ?_
          refine tZ 3 20 (bm 10 127) HT_.out HW_.out hHeld ?_
          refine tZ 7 24 (bm 10 255) HT_.out HW_.out hHeld ?_
          by_cases c8 : t103 = true
          · subst c8
            rw [if_pos rfl] at H
            have H' := Aside0.mk H
            clear H
            refine oZ 8 (some 25) (bm 10 511) HT_.out (fun K hK => ?_)
            refine goesN Tryz.func215 #[.agg #[.int .i64 ((rd_T174 l0 x5_1).f0), .int .i64 ((rd_T174 l0 x5_1).f1), .int .i64 ((rd_T174 l0 x5_1).f2), .int .i64 ((rd_T174 l0 x5_1).f3)], .agg #[.int .i64 ((rd_T174 l1 x5_1).f0), .int .i64 ((rd_T174 l1 x5_1).f1), .int .i64 ((rd_T174 l1 x5_1).f2), .int .i64 ((rd_T174 l1 x5_1).f3)]] ?_
            with_reducible refine (laws_eqHelp.calls ((rd_T174 l0 x5_1).f0) ((rd_T174 l0 x5_1).f1) ((rd_T174 l0 x5_1).f2) ((rd_T174 l0 x5_1).f3) ((rd_T174 l1 x5_1).f0) ((rd_T174 l1 x5_1).f1) ((rd_T174 l1 x5_1).f2) ((rd_T174 l1 x5_1).f3) true _ A7.out).mono ?_
            rintro e wx2 ⟨rfl, hb⟩
            refine ⟨_, rfl, ?_⟩
            replace HB := Aside0.mk (below_step (hX HB.out) hb)
            (try clear hb)
            (try clear hb2)
            (try clear hk)
            (try clear hi)
            refine hK.out _ _ ⟨((HB.out.cell (World.block_lt_of_cell? w _ hwx4)).trans hwx4), ((HB.out.cell (World.block_lt_of_cell? w _ hwx3)).trans hwx3), ((HB.out.cell (World.block_lt_of_cell? w _ hwx2)).trans hwx2), ((HB.out.cell (World.block_lt_of_cell? w _ hwx1)).trans hwx1), ((HB.out.cell (World.block_lt_of_cell? w _ hwx8)).trans hwx8), ((HB.out.cell (World.block_lt_of_cell? w _ hwx7)).trans hwx7), ((HB.out.cell (World.block_lt_of_cell? w _ hwx6)).trans hwx6), ((HB.out.cell (World.block_lt_of_cell? w _ hwx5)).trans hwx5)⟩ (fun hHeld => ?_)
            clear hK K
            refine nZ 25 ?_
            refine pZ 9 26 (bm 10 1023) HT_.out ?_
            refine done_ (done_of HT_.out (by kernel_rfl)) ?_
            try go_wp2
            go_roundg k1
            case measure => have := HKy1.out; omega
            case rel => exact ⟨(wrap64 (x5_1 + 1)), rS, H', ⟨by have := HKy1.out; omega⟩, ⟨(hX HB.out)⟩⟩
          · replace c8 := Bool.eq_false_iff.mpr c8
            subst c8
            rw [if_neg nft] at H
            obtain rfl := Option.some.inj H
            refine oZ 8 (some 25) (bm 10 511) HT_.out (fun K hK => ?_)
            refine goesN Tryz.func215 #[.agg #[.int .i64 ((rd_T174 l0 x5_1).f0), .int .i64 ((rd_T174 l0 x5_1).f1), .int .i64 ((rd_T174 l0 x5_1).f2), .int .i64 ((rd_T174 l0 x5_1).f3)], .agg #[.int .i64 ((rd_T174 l1 x5_1).f0), .int .i64 ((rd_T174 l1 x5_1).f1), .int .i64 ((rd_T174 l1 x5_1).f2), .int .i64 ((rd_T174 l1 x5_1).f3)]] ?_
            with_reducible refine (laws_eqHelp.calls ((rd_T174 l0 x5_1).f0) ((rd_T174 l0 x5_1).f1) ((rd_T174 l0 x5_1).f2) ((rd_T174 l0 x5_1).f3) ((rd_T174 l1 x5_1).f0) ((rd_T174 l1 x5_1).f1) ((rd_T174 l1 x5_1).f2) ((rd_T174 l1 x5_1).f3) false _ A7.out).mono ?_
            rintro e wx2 ⟨rfl, hb⟩
            refine ⟨_, rfl, ?_⟩
            replace HB := Aside0.mk (below_step (hX HB.out) hb)
            (try clear hb)
            (try clear hb2)
            (try clear hk)
            (try clear hi)
            refine hK.out _ _ ⟨((HB.out.cell (World.block_lt_of_cell? w _ hwx4)).trans hwx4), ((HB.out.cell (World.block_lt_of_cell? w _ hwx3)).trans hwx3), ((HB.out.cell (World.block_lt_of_cell? w _ hwx2)).trans hwx2), ((HB.out.cell (World.block_lt_of_cell? w _ hwx1)).trans hwx1), ((HB.out.cell (World.block_lt_of_cell? w _ hwx8)).trans hwx8), ((HB.out.cell (World.block_lt_of_cell? w _ hwx7)).trans hwx7), ((HB.out.cell (World.block_lt_of_cell? w _ hwx6)).trans hwx6), ((HB.out.cell (World.block_lt_of_cell? w _ hwx5)).trans hwx5)⟩ (fun hHeld => ?_)
            clear hK K
            refine nZ 25 ?_
            refine pZ 9 26 (bm 10 1023) HT_.out ?_
            refine done_ (done_of HT_.out (by kernel_rfl)) ?_
            try go_wp2
            go_ret
            exact ⟨rE, (hX HB.out)⟩
        · rw [if_neg c4] at H
          have c4b0 := decide_eq_false c4
          clear c4
          obtain rfl := Option.some.inj H
          go_wp2
          go_ret
          exact ⟨rE, (hX HB.out)⟩
  · rw [if_neg c3] at H
    obtain ⟨c3b0, c3b1⟩ := eqF c3
    have c3b2 : (l0.length == l1.length) = false := by first | simpa using c3 | (simp at c3 ⊢; omega)
    obtain rfl := Option.some.inj H
    go_wp2
    go_ret
    exact ⟨rE, (hX HB.out)⟩
end Go.Proofs.YtmljebgideecjaaGreat.P
namespace Go.Proofs.YtmljebgideecjaaGreat.P
open Go.Proofs.YtmljebgideecjaaGreatZ Go.RowKit Go.Proofs.YtmljebgideecjaaGreatW.PrintWords Go.Proofs.YtmljebgideecjaaGreatW.PrintLast Go.Proofs.YtmljebgideecjaaGreatW.PrintMore
attribute [local go_sem] max2_int min2_int max_two min_two max_three min_three max_four min_four   -- for this text's walks alone
set_option linter.unusedVariables false
set_option linter.unusedSimpArgs false
def laws_eqOp.f (a0_0 : Int) (a0_1 : Int) (a0_2 : Int) (a1_0 : Int) (a1_1 : Int) (a1_2 : Int) : Option (Bool) := if a0_0 = a1_0 then (if a0_1 = a1_1 then (if a0_2 = a1_2 then (some true) else (some false)) else (some false)) else (some false)
set_option maxHeartbeats 8000000 in
set_option maxRecDepth 100000 in
theorem laws_eqOp.calls (a0_0 : Int) (a0_1 : Int) (a0_2 : Int) (a1_0 : Int) (a1_1 : Int) (a1_2 : Int) (r : Bool) (w : World) (h : laws_eqOp.f a0_0 a0_1 a0_2 a1_0 a1_1 a1_2 = some r) :
    Calls Tryz.prog 128 #[.agg #[.int .i64 a0_0, .int .i64 a0_1, .int .i64 a0_2], .agg #[.int .i64 a1_0, .int .i64 a1_1, .int .i64 a1_2]] w fun e w' => e = .returned (.bool r) ∧ Below w.heap.size w w' := by
  have hu69 := Tryz.underlying69
  have HB := Aside0.mk (Below.refl w.heap.size w)
  have H := h
  unfold laws_eqOp.f at H
  clear h
  go_enter Tryz.func128, Tryz.ntmps128
  go_wp2_with (first | (refine boxE 2 #[.int .i64 a0_0, .int .i64 a0_1, .int .i64 a0_2] 69 ?_; intro gbz1 hg wz1 hbox hb; have BKz1 := Aside0.mk (hbox); have GWz1 := Aside0.mk (gX' hg (hX HB.out)); have GEz1 := Aside0.mk (gX' hg (hX HB.out)); replace HB := Aside0.mk (below_step (hX HB.out) hb); clear hb hbox hg) | (refine boxE 3 #[.int .i64 a1_0, .int .i64 a1_1, .int .i64 a1_2] 69 ?_; intro gbz2 hg wz2 hbox hb; have BKz2 := Aside0.mk (hbox); have GWz2 := Aside0.mk (gX' hg (hX HB.out)); have GEz2 := Aside0.mk (gX' hg (hX HB.out)); have NBz1 := Aside0.mk (gL hg (bX BKz1.out)); have NBz2 := Aside0.mk (gG hg (bX BKz1.out)); replace BKz1 := Aside0.mk (blk_below (bX BKz1.out) hb); replace HB := Aside0.mk (below_step (hX HB.out) hb); clear hb hbox hg; have hnbz1 := NBz1.out; have hncz1 := NBz2.out; obtain ⟨hczz1, hczz2, hczz3, hfzz1, hfzz2, hfzz3⟩ := cZ3 BKz1.out; obtain ⟨hczz4, hczz5, hczz6, hfzz4, hfzz5, hfzz6⟩ := cZ3 BKz2.out; refine Stop.out ?_))
  refine ⟨?_⟩
  by_cases c3 : a0_0 = a1_0
  · rw [if_pos c3] at H
    obtain ⟨c3b0, c3b1⟩ := eqT c3
    clear c3
    by_cases c4 : a0_1 = a1_1
    · rw [if_pos c4] at H
      obtain ⟨c4b0, c4b1⟩ := eqT c4
      clear c4
      by_cases c5 : a0_2 = a1_2
      · rw [if_pos c5] at H
        obtain ⟨c5b0, c5b1⟩ := eqT c5
        clear c5
        obtain rfl := Option.some.inj H
        go_wp2
        go_ret
        exact ⟨rE, (hX HB.out)⟩
      · rw [if_neg c5] at H
        obtain ⟨c5b0, c5b1⟩ := eqF c5
        obtain rfl := Option.some.inj H
        go_wp2
        go_ret
        exact ⟨rE, (hX HB.out)⟩
    · rw [if_neg c4] at H
      obtain ⟨c4b0, c4b1⟩ := eqF c4
      obtain rfl := Option.some.inj H
      go_wp2
      go_ret
      exact ⟨rE, (hX HB.out)⟩
  · rw [if_neg c3] at H
    obtain ⟨c3b0, c3b1⟩ := eqF c3
    obtain rfl := Option.some.inj H
    go_wp2
    go_ret
    exact ⟨rE, (hX HB.out)⟩
end Go.Proofs.YtmljebgideecjaaGreat.P
namespace Go.Proofs.YtmljebgideecjaaGreat.P
open Go.Proofs.YtmljebgideecjaaGreatZ Go.RowKit Go.Proofs.YtmljebgideecjaaGreatW.PrintWords Go.Proofs.YtmljebgideecjaaGreatW.PrintLast Go.Proofs.YtmljebgideecjaaGreatW.PrintMore
attribute [local go_sem] max2_int min2_int max_two min_two max_three min_three max_four min_four   -- for this text's walks alone
set_option linter.unusedVariables false
set_option linter.unusedSimpArgs false
def laws_eqOpS.l0 : Nat → List (S69) → List (S69) → Int → Option (Bool)
  | 0, _, _, _ => none
  | k + 1, x0, x1, x5 => if x5 < (x0.length : Int) then (if 0 ≤ x5 then (if x5 < (x1.length : Int) then ((laws_eqOp.f ((rd_T69 x0 x5).f0) ((rd_T69 x0 x5).f1) ((rd_T69 x0 x5).f2) ((rd_T69 x1 x5).f0) ((rd_T69 x1 x5).f1) ((rd_T69 x1 x5).f2)).bind fun t103 => (if t103 = true then (laws_eqOpS.l0 k x0 x1 (wrap64 (x5 + 1))) else (some false))) else (none)) else (none)) else (some true)
def laws_eqOpS.f (k : Nat) (l0 : List (S69)) (l1 : List (S69)) : Option (Bool) := if (l0.length : Int) = (l1.length : Int) then (laws_eqOpS.l0 k l0 l1 0) else (some false)
def laws_eqOpS.T6 : Bool × List (List Nat × List Nat) := (true, [([], []), ([], []), ([0, 1], [0, 1]), ([2], [2]), ([], []), ([], []), ([4, 5], [4, 5]), ([6], [6]), ([3, 7], [3, 7]), ([8], [8])])
def laws_eqOpS.B6 : List Nat := [0, 0, 3, 7, 0, 0, 48, 112, 255, 511]
theorem laws_eqOpS.tab6 : rtab .any (opsOf Tryz.f70 6) = laws_eqOpS.T6 := by kernel_rfl
theorem laws_eqOpS.bits6 : waitsOk laws_eqOpS.T6.2 laws_eqOpS.B6 = true := by kernel_rfl
set_option maxHeartbeats 8000000 in
set_option maxRecDepth 100000 in
theorem laws_eqOpS.calls (k : Nat) (A0 : Option Addr) (c0 : Nat) (l0 : List (S69)) (A1 : Option Addr) (c1 : Nat) (l1 : List (S69)) (r : Bool) (w : World) (hr0 : Kd.C k69 w A0 l0.length l0) (hc0 : l0.length ≤ c0) (hr1 : Kd.C k69 w A1 l1.length l1) (hc1 : l1.length ≤ c1) (h : laws_eqOpS.f k l0 l1 = some r) :
    Calls Tryz.prog 70 #[.slice A0 l0.length c0, .slice A1 l1.length c1] w fun e w' => e = .returned (.bool r) ∧ Below w.heap.size w w' := by
  have hu69 := Tryz.underlying69
  have HR0 := Aside0.mk hr0
  have HC0 := Aside0.mk hc0
  clear hr0 hc0
  have HR1 := Aside0.mk hr1
  have HC1 := Aside0.mk hc1
  clear hr1 hc1
  have HB := Aside0.mk (Below.refl w.heap.size w)
  have H := h
  unfold laws_eqOpS.f at H
  clear h
  go_enter Tryz.func70, Tryz.ntmps70
  by_cases c3 : (l0.length : Int) = (l1.length : Int)
  · rw [if_pos c3] at H
    obtain ⟨c3b0, c3b1⟩ := eqT c3
    have c3b2 : (l0.length == l1.length) = true := by first | simpa using c3 | (simp at c3 ⊢; omega)
    clear c3
    have H' := Aside0.mk H
    clear H
    go_wp2
    go_loopg [5] k (fun kq v5 w' => ∃ (x5_1 : Int), v5 = .int .i64 x5_1 ∧ Aside0 (laws_eqOpS.l0 kq l0 l1 x5_1 = some r) ∧ Aside0 (kq ≤ k) ∧ Aside0 (Below w.heap.size w w'))
    case atStart => exact ⟨(0), rS, H', ⟨Nat.le_refl _⟩, ⟨(hX HB.out)⟩⟩
    case round =>
      clear H'
      try clear c1
      try clear p2
      try clear c3
      try clear c3b0
      try clear c3b1
      try clear c3b2
      obtain ⟨x5_1, rfl, HA, HKy1, HB⟩ := hrel
      cases gk with
      | zero => exact absurd HA.out (by simp [laws_eqOpS.l0])
      | succ k1 =>
        have H := HA.out
        clear HA
        simp only [laws_eqOpS.l0] at H
        by_cases c4 : x5_1 < (l0.length : Int)
        · rw [if_pos c4] at H
          have c4b0 := decide_eq_true c4
          clear c4
          replace H := ifP H; obtain ⟨c5, H⟩ := H
          have c5b0 := decide_eq_true c5
          clear c5
          replace H := ifP H; obtain ⟨c6, H⟩ := H
          have c6b0 := decide_eq_true c6
          clear c6
          replace H := bE H; obtain ⟨t103, A7, H⟩ := H
          try go_wp2
          replace HB := Aside0.mk (below_drew1 HB.out)
          have px1 : 0 ≤ (x5_1 : Int) := of_decide_eq_true (by first | (with_reducible assumption) | assumption)
          have qx1 : x5_1 < (l0.length : Int) := of_decide_eq_true (by first | (with_reducible assumption) | assumption)
          obtain ⟨adx1, ex1, hxx1, hxx2, hxx3⟩ := at_T69 HR0.out x5_1 px1 qx1
          have hwx1 := hxx3
          have hwx2 := hxx2
          have hwx3 := hxx1
          cases ex1
          replace hxx1 := (HB.out.cell (World.block_lt_of_cell? w _ hxx1)).trans hxx1
          replace hxx2 := (HB.out.cell (World.block_lt_of_cell? w _ hxx2)).trans hxx2
          replace hxx3 := (HB.out.cell (World.block_lt_of_cell? w _ hxx3)).trans hxx3
          replace px1 := eq_true px1
          replace qx1 := eq_true qx1
          have px2 : 0 ≤ (x5_1 : Int) := of_decide_eq_true (by first | (with_reducible assumption) | assumption)
          have qx2 : x5_1 < (l1.length : Int) := of_decide_eq_true (by first | (with_reducible assumption) | assumption)
          obtain ⟨adx2, ex2, hxx4, hxx5, hxx6⟩ := at_T69 HR1.out x5_1 px2 qx2
          have hwx4 := hxx6
          have hwx5 := hxx5
          have hwx6 := hxx4
          cases ex2
          replace hxx4 := (HB.out.cell (World.block_lt_of_cell? w _ hxx4)).trans hxx4
          replace hxx5 := (HB.out.cell (World.block_lt_of_cell? w _ hxx5)).trans hxx5
          replace hxx6 := (HB.out.cell (World.block_lt_of_cell? w _ hxx6)).trans hxx6
          replace px2 := eq_true px2
          replace qx2 := eq_true qx2
          refine start_ (n := 10) (S := fun w' => w'.cell? (adx1.add ((x5_1).toNat * 3)) = some (.int .i64 ((rd_T69 l0 x5_1).f0)) ∧ w'.cell? ⟨(adx1.add ((x5_1).toNat * 3)).block, (adx1.add ((x5_1).toNat * 3)).off + 1, none⟩ = some (.int .i64 ((rd_T69 l0 x5_1).f1)) ∧ w'.cell? ⟨(adx1.add ((x5_1).toNat * 3)).block, (adx1.add ((x5_1).toNat * 3)).off + 2, none⟩ = some (.int .i64 ((rd_T69 l0 x5_1).f2)) ∧ w'.cell? (adx2.add ((x5_1).toNat * 3)) = some (.int .i64 ((rd_T69 l1 x5_1).f0)) ∧ w'.cell? ⟨(adx2.add ((x5_1).toNat * 3)).block, (adx2.add ((x5_1).toNat * 3)).off + 1, none⟩ = some (.int .i64 ((rd_T69 l1 x5_1).f1)) ∧ w'.cell? ⟨(adx2.add ((x5_1).toNat * 3)).block, (adx2.add ((x5_1).toNat * 3)).off + 2, none⟩ = some (.int .i64 ((rd_T69 l1 x5_1).f2))) (ds := []) (bm 10 0) (by kernel_rfl) rfl (by kernel_rfl) ⟨((HB.out.cell (World.block_lt_of_cell? w _ hwx3)).trans hwx3), ((HB.out.cell (World.block_lt_of_cell? w _ hwx2)).trans hwx2), ((HB.out.cell (World.block_lt_of_cell? w _ hwx1)).trans hwx1), ((HB.out.cell (World.block_lt_of_cell? w _ hwx6)).trans hwx6), ((HB.out.cell (World.block_lt_of_cell? w _ hwx5)).trans hwx5), ((HB.out.cell (World.block_lt_of_cell? w _ hwx4)).trans hwx4)⟩ (fun hHeld => ?_); refine with_tabW laws_eqOpS.tab6 laws_eqOpS.bits6 (fun HT_ HW_ => ?_)
          generalize wr.drew = wx1 at HB hxx1 hxx2 hxx3 hxx4 hxx5 hxx6 hHeld ⊢
          refine pZ 0 17 (bm 10 1) HT_.out ?_
          refine pZ 1 18 (bm 10 3) HT_.out ?_
          refine pZ 2 19 (bm 10 7) HT_.out ?_
          refine pZ 4 21 (bm 10 23) HT_.out ?_
          refine pZ 5 22 (bm 10 55) HT_.out ?_
          refine pZ 6 23 (bm 10 119) HT_.out ?_
          refine tZ 3 20 (bm 10 127) HT_.out HW_.out hHeld ?_
          refine tZ 7 24 (bm 10 255) HT_.out HW_.out hHeld ?_
          by_cases c8 : t103 = true
          · subst c8
            rw [if_pos rfl] at H
            have H' := Aside0.mk H
            clear H
            refine oZ 8 (some 25) (bm 10 511) HT_.out (fun K hK => ?_)
            refine goesN Tryz.func128 #[.agg #[.int .i64 ((rd_T69 l0 x5_1).f0), .int .i64 ((rd_T69 l0 x5_1).f1), .int .i64 ((rd_T69 l0 x5_1).f2)], .agg #[.int .i64 ((rd_T69 l1 x5_1).f0), .int .i64 ((rd_T69 l1 x5_1).f1), .int .i64 ((rd_T69 l1 x5_1).f2)]] ?_
            with_reducible refine (laws_eqOp.calls ((rd_T69 l0 x5_1).f0) ((rd_T69 l0 x5_1).f1) ((rd_T69 l0 x5_1).f2) ((rd_T69 l1 x5_1).f0) ((rd_T69 l1 x5_1).f1) ((rd_T69 l1 x5_1).f2) true _ A7.out).mono ?_
            rintro e wx2 ⟨rfl, hb⟩
            refine ⟨_, rfl, ?_⟩
            replace HB := Aside0.mk (below_step (hX HB.out) hb)
            (try clear hb)
            (try clear hb2)
            (try clear hk)
            (try clear hi)
            refine hK.out _ _ ⟨((HB.out.cell (World.block_lt_of_cell? w _ hwx3)).trans hwx3), ((HB.out.cell (World.block_lt_of_cell? w _ hwx2)).trans hwx2), ((HB.out.cell (World.block_lt_of_cell? w _ hwx1)).trans hwx1), ((HB.out.cell (World.block_lt_of_cell? w _ hwx6)).trans hwx6), ((HB.out.cell (World.block_lt_of_cell? w _ hwx5)).trans hwx5), ((HB.out.cell (World.block_lt_of_cell? w _ hwx4)).trans hwx4)⟩ (fun hHeld => ?_)
            clear hK K
            refine nZ 25 ?_
            refine pZ 9 26 (bm 10 1023) HT_.out ?_
            refine done_ (done_of HT_.out (by kernel_rfl)) ?_
            try go_wp2
            go_roundg k1
            case measure => have := HKy1.out; omega
            case rel => exact ⟨(wrap64 (x5_1 + 1)), rS, H', ⟨by have := HKy1.out; omega⟩, ⟨(hX HB.out)⟩⟩
          · replace c8 := Bool.eq_false_iff.mpr c8
            subst c8
            rw [if_neg nft] at H
            obtain rfl := Option.some.inj H
            refine oZ 8 (some 25) (bm 10 511) HT_.out (fun K hK => ?_)
            refine goesN Tryz.func128 #[.agg #[.int .i64 ((rd_T69 l0 x5_1).f0), .int .i64 ((rd_T69 l0 x5_1).f1), .int .i64 ((rd_T69 l0 x5_1).f2)], .agg #[.int .i64 ((rd_T69 l1 x5_1).f0), .int .i64 ((rd_T69 l1 x5_1).f1), .int .i64 ((rd_T69 l1 x5_1).f2)]] ?_
            with_reducible refine (laws_eqOp.calls ((rd_T69 l0 x5_1).f0) ((rd_T69 l0 x5_1).f1) ((rd_T69 l0 x5_1).f2) ((rd_T69 l1 x5_1).f0) ((rd_T69 l1 x5_1).f1) ((rd_T69 l1 x5_1).f2) false _ A7.out).mono ?_
            rintro e wx2 ⟨rfl, hb⟩
            refine ⟨_, rfl, ?_⟩
            replace HB := Aside0.mk (below_step (hX HB.out) hb)
            (try clear hb)
            (try clear hb2)
            (try clear hk)
            (try clear hi)
            refine hK.out _ _ ⟨((HB.out.cell (World.block_lt_of_cell? w _ hwx3)).trans hwx3), ((HB.out.cell (World.block_lt_of_cell? w _ hwx2)).trans hwx2), ((HB.out.cell (World.block_lt_of_cell? w _ hwx1)).trans hwx1), ((HB.out.cell (World.block_lt_of_cell? w _ hwx6)).trans hwx6), ((HB.out.cell (World.block_lt_of_cell? w _ hwx5)).trans hwx5), ((HB.out.cell (World.block_lt_of_cell? w _ hwx4)).trans hwx4)⟩ (fun hHeld => ?_)
            clear hK K
            refine nZ 25 ?_
            refine pZ 9 26 (bm 10 1023) HT_.out ?_
            refine done_ (done_of HT_.out (by kernel_rfl)) ?_
            try go_wp2
            go_ret
            exact ⟨rE, (hX HB.out)⟩
        · rw [if_neg c4] at H
          have c4b0 := decide_eq_false c4
          clear c4
          obtain rfl := Option.some.inj H
          go_wp2
          go_ret
          exact ⟨rE, (hX HB.out)⟩
  · rw [if_neg c3] at H
    obtain ⟨c3b0, c3b1⟩ := eqF c3
    have c3b2 : (l0.length == l1.length) = false := by first | simpa using c3 | (simp at c3 ⊢; omega)
    obtain rfl := Option.some.inj H
    go_wp2
    go_ret
    exact ⟨rE, (hX HB.out)⟩
end Go.Proofs.YtmljebgideecjaaGreat.P
namespace Go.Proofs.YtmljebgideecjaaGreat.P
open Go.Proofs.YtmljebgideecjaaGreatZ Go.RowKit Go.Proofs.YtmljebgideecjaaGreatW.PrintWords Go.Proofs.YtmljebgideecjaaGreatW.PrintLast Go.Proofs.YtmljebgideecjaaGreatW.PrintMore
attribute [local go_sem] max2_int min2_int max_two min_two max_three min_three max_four min_four   -- for this text's walks alone
set_option linter.unusedVariables false
set_option linter.unusedSimpArgs false
def laws_eqThread.f (k : Nat) (l0_0 : List (S69)) (a0_1 : Int) (a0_2 : Bool) (l0_3 : List (S172)) (l0_4 : List (S174)) (l1_0 : List (S69)) (a1_1 : Int) (a1_2 : Bool) (l1_3 : List (S172)) (l1_4 : List (S174)) : Option (Bool) := (laws_eqOpS.f k l0_0 l1_0).bind fun t103 => (if t103 = true then (if a0_1 = a1_1 then (if (a0_2 != a1_2) = true then (some false) else ((laws_eqPairS.f k l0_3 l1_3).bind fun t104 => (if t104 = true then ((laws_eqHelpS.f k l0_4 l1_4).bind fun t105 => (if t105 = true then (some true) else (some false))) else (some false)))) else (some false)) else (some false))
set_option maxHeartbeats 8000000 in
set_option maxRecDepth 100000 in
theorem laws_eqThread.calls (k : Nat) (A0_0 : Option Addr) (c0_0 : Nat) (l0_0 : List (S69)) (a0_1 : Int) (a0_2 : Bool) (A0_3 : Option Addr) (c0_3 : Nat) (l0_3 : List (S172)) (A0_4 : Option Addr) (c0_4 : Nat) (l0_4 : List (S174)) (A1_0 : Option Addr) (c1_0 : Nat) (l1_0 : List (S69)) (a1_1 : Int) (a1_2 : Bool) (A1_3 : Option Addr) (c1_3 : Nat) (l1_3 : List (S172)) (A1_4 : Option Addr) (c1_4 : Nat) (l1_4 : List (S174)) (r : Bool) (w : World) (hr0_0 : Kd.C k69 w A0_0 l0_0.length l0_0) (hc0_0 : l0_0.length ≤ c0_0) (hr0_3 : Kd.C k172 w A0_3 l0_3.length l0_3) (hc0_3 : l0_3.length ≤ c0_3) (hr0_4 : Kd.C k174 w A0_4 l0_4.length l0_4) (hc0_4 : l0_4.length ≤ c0_4) (hr1_0 : Kd.C k69 w A1_0 l1_0.length l1_0) (hc1_0 : l1_0.length ≤ c1_0) (hr1_3 : Kd.C k172 w A1_3 l1_3.length l1_3) (hc1_3 : l1_3.length ≤ c1_3) (hr1_4 : Kd.C k174 w A1_4 l1_4.length l1_4) (hc1_4 : l1_4.length ≤ c1_4) (h : laws_eqThread.f k l0_0 a0_1 a0_2 l0_3 l0_4 l1_0 a1_1 a1_2 l1_3 l1_4 = some r) :
    Calls Tryz.prog 111 #[.agg #[.slice A0_0 l0_0.length c0_0, .int .i64 a0_1, .bool a0_2, .slice A0_3 l0_3.length c0_3, .slice A0_4 l0_4.length c0_4], .agg #[.slice A1_0 l1_0.length c1_0, .int .i64 a1_1, .bool a1_2, .slice A1_3 l1_3.length c1_3, .slice A1_4 l1_4.length c1_4]] w fun e w' => e = .returned (.bool r) ∧ Below w.heap.size w w' := by
  have hu97 := Tryz.underlying97
  have HR0_0 := Aside0.mk hr0_0
  have HC0_0 := Aside0.mk hc0_0
  clear hr0_0 hc0_0
  have HR0_3 := Aside0.mk hr0_3
  have HC0_3 := Aside0.mk hc0_3
  clear hr0_3 hc0_3
  have HR0_4 := Aside0.mk hr0_4
  have HC0_4 := Aside0.mk hc0_4
  clear hr0_4 hc0_4
  have HR1_0 := Aside0.mk hr1_0
  have HC1_0 := Aside0.mk hc1_0
  clear hr1_0 hc1_0
  have HR1_3 := Aside0.mk hr1_3
  have HC1_3 := Aside0.mk hc1_3
  clear hr1_3 hc1_3
  have HR1_4 := Aside0.mk hr1_4
  have HC1_4 := Aside0.mk hc1_4
  clear hr1_4 hc1_4
  have HB := Aside0.mk (Below.refl w.heap.size w)
  have H := h
  unfold laws_eqThread.f at H
  clear h
  replace H := bE H; obtain ⟨t103, A3, H⟩ := H
  go_enter Tryz.func111, Tryz.ntmps111
  go_wp2_with (first | (refine boxE 2 #[.slice A0_0 l0_0.length c0_0, .int .i64 a0_1, .bool a0_2, .slice A0_3 l0_3.length c0_3, .slice A0_4 l0_4.length c0_4] 97 ?_; intro gbz1 hg wz1 hbox hb; have BKz1 := Aside0.mk (hbox); have GWz1 := Aside0.mk (gX' hg (hX HB.out)); have GEz1 := Aside0.mk (gX' hg (hX HB.out)); replace HB := Aside0.mk (below_step (hX HB.out) hb); clear hb hbox hg) | (refine boxE 3 #[.slice A1_0 l1_0.length c1_0, .int .i64 a1_1, .bool a1_2, .slice A1_3 l1_3.length c1_3, .slice A1_4 l1_4.length c1_4] 97 ?_; intro gbz2 hg wz2 hbox hb; have BKz2 := Aside0.mk (hbox); have GWz2 := Aside0.mk (gX' hg (hX HB.out)); have GEz2 := Aside0.mk (gX' hg (hX HB.out)); have NBz1 := Aside0.mk (gL hg (bX BKz1.out)); have NBz2 := Aside0.mk (gG hg (bX BKz1.out)); replace BKz1 := Aside0.mk (blk_below (bX BKz1.out) hb); replace HB := Aside0.mk (below_step (hX HB.out) hb); clear hb hbox hg; have hnbz1 := NBz1.out; have hncz1 := NBz2.out; obtain ⟨hczz1, hczz2, hczz3, hczz4, hczz5, hfzz1, hfzz2, hfzz3, hfzz4, hfzz5⟩ := cZ5 BKz1.out; obtain ⟨hczz6, hczz7, hczz8, hczz9, hczz10, hfzz6, hfzz7, hfzz8, hfzz9, hfzz10⟩ := cZ5 BKz2.out; refine Stop.out ?_))
  refine ⟨?_⟩
  by_cases c4 : t103 = true
  · subst c4
    rw [if_pos rfl] at H
    go_wp2_with (first | (refine goesM 70 9 Tryz.func70 #[.slice A0_0 l0_0.length c0_0, .slice A1_0 l1_0.length c1_0] ?_; refine (laws_eqOpS.calls k _ _ l0_0 _ _ l1_0 true _ (cC HR0_0.out HB.out) HC0_0.out (cC HR1_0.out HB.out) HC1_0.out A3.out).mono ?_; rintro e wz3 ⟨rfl, hb⟩; refine ⟨_, rfl, ?_⟩; replace BKz1 := Aside0.mk (blk_below (bX BKz1.out) hb); replace BKz2 := Aside0.mk (blk_below (bX BKz2.out) hb); replace HB := Aside0.mk (below_step (hX HB.out) hb); clear hb; obtain ⟨hczz11, hczz12, hczz13, hczz14, hczz15, hfzz11, hfzz12, hfzz13, hfzz14, hfzz15⟩ := cZ5 BKz1.out; obtain ⟨hczz16, hczz17, hczz18, hczz19, hczz20, hfzz16, hfzz17, hfzz18, hfzz19, hfzz20⟩ := cZ5 BKz2.out; refine Stop.out ?_))
    refine ⟨?_⟩
    by_cases c5 : a0_1 = a1_1
    · rw [if_pos c5] at H
      obtain ⟨c5b0, c5b1⟩ := eqT c5
      clear c5
      by_cases c6 : (a0_2 != a1_2) = true
      · rw [if_pos c6] at H
        have c6b0 : (a0_2 != a1_2) = true := c6
        (try (have c6b1 : decide (a0_2 = a1_2) = false := by simpa using c6))
        (try (have c6b2 : (a0_2 == a1_2) = false := by simpa using c6))
        (try (have c6b3 : ¬ (a0_2 = a1_2) := by simpa using c6))
        clear c6
        obtain rfl := Option.some.inj H
        go_wp2
        go_ret
        exact ⟨rE, (hX HB.out)⟩
      · rw [if_neg c6] at H
        have c6b0 : (a0_2 != a1_2) = false := by simpa using c6
        (try (have c6b1 : decide (a0_2 = a1_2) = true := by simpa using c6))
        (try (have c6b2 : (a0_2 == a1_2) = true := by simpa using c6))
        clear c6
        replace H := bE H; obtain ⟨t104, A15, H⟩ := H
        by_cases c16 : t104 = true
        · subst c16
          rw [if_pos rfl] at H
          replace H := bE H; obtain ⟨t105, A17, H⟩ := H
          go_wp2_with (first | (refine goesM 188 25 Tryz.func188 #[.slice A0_3 l0_3.length c0_3, .slice A1_3 l1_3.length c1_3] ?_; refine (laws_eqPairS.calls k _ _ l0_3 _ _ l1_3 true _ (cC HR0_3.out HB.out) HC0_3.out (cC HR1_3.out HB.out) HC1_3.out A15.out).mono ?_; rintro e wz4 ⟨rfl, hb⟩; refine ⟨_, rfl, ?_⟩; replace BKz1 := Aside0.mk (blk_below (bX BKz1.out) hb); replace BKz2 := Aside0.mk (blk_below (bX BKz2.out) hb); replace HB := Aside0.mk (below_step (hX HB.out) hb); clear hb; obtain ⟨hczz21, hczz22, hczz23, hczz24, hczz25, hfzz21, hfzz22, hfzz23, hfzz24, hfzz25⟩ := cZ5 BKz1.out; obtain ⟨hczz26, hczz27, hczz28, hczz29, hczz30, hfzz26, hfzz27, hfzz28, hfzz29, hfzz30⟩ := cZ5 BKz2.out; refine Stop.out ?_))
          refine ⟨?_⟩
          by_cases c18 : t105 = true
          · subst c18
            rw [if_pos rfl] at H
            obtain rfl := Option.some.inj H
            go_wp2_with (first | (refine goesM 189 31 Tryz.func189 #[.slice A0_4 l0_4.length c0_4, .slice A1_4 l1_4.length c1_4] ?_; refine (laws_eqHelpS.calls k _ _ l0_4 _ _ l1_4 true _ (cC HR0_4.out HB.out) HC0_4.out (cC HR1_4.out HB.out) HC1_4.out A17.out).mono ?_; rintro e wz5 ⟨rfl, hb⟩; refine ⟨_, rfl, ?_⟩; replace BKz1 := Aside0.mk (blk_below (bX BKz1.out) hb); replace BKz2 := Aside0.mk (blk_below (bX BKz2.out) hb); replace HB := Aside0.mk (below_step (hX HB.out) hb); clear hb))
            go_ret
            exact ⟨rE, (hX HB.out)⟩
          · replace c18 := Bool.eq_false_iff.mpr c18
            subst c18
            rw [if_neg nft] at H
            obtain rfl := Option.some.inj H
            go_wp2_with (first | (refine goesM 189 31 Tryz.func189 #[.slice A0_4 l0_4.length c0_4, .slice A1_4 l1_4.length c1_4] ?_; refine (laws_eqHelpS.calls k _ _ l0_4 _ _ l1_4 false _ (cC HR0_4.out HB.out) HC0_4.out (cC HR1_4.out HB.out) HC1_4.out A17.out).mono ?_; rintro e wz5 ⟨rfl, hb⟩; refine ⟨_, rfl, ?_⟩; replace BKz1 := Aside0.mk (blk_below (bX BKz1.out) hb); replace BKz2 := Aside0.mk (blk_below (bX BKz2.out) hb); replace HB := Aside0.mk (below_step (hX HB.out) hb); clear hb))
            go_ret
            exact ⟨rE, (hX HB.out)⟩
        · replace c16 := Bool.eq_false_iff.mpr c16
          subst c16
          rw [if_neg nft] at H
          obtain rfl := Option.some.inj H
          go_wp2_with (first | (refine goesM 188 25 Tryz.func188 #[.slice A0_3 l0_3.length c0_3, .slice A1_3 l1_3.length c1_3] ?_; refine (laws_eqPairS.calls k _ _ l0_3 _ _ l1_3 false _ (cC HR0_3.out HB.out) HC0_3.out (cC HR1_3.out HB.out) HC1_3.out A15.out).mono ?_; rintro e wz4 ⟨rfl, hb⟩; refine ⟨_, rfl, ?_⟩; replace BKz1 := Aside0.mk (blk_below (bX BKz1.out) hb); replace BKz2 := Aside0.mk (blk_below (bX BKz2.out) hb); replace HB := Aside0.mk (below_step (hX HB.out) hb); clear hb))
          go_ret
          exact ⟨rE, (hX HB.out)⟩
    · rw [if_neg c5] at H
      obtain ⟨c5b0, c5b1⟩ := eqF c5
      obtain rfl := Option.some.inj H
      go_wp2
      go_ret
      exact ⟨rE, (hX HB.out)⟩
  · replace c4 := Bool.eq_false_iff.mpr c4
    subst c4
    rw [if_neg nft] at H
    obtain rfl := Option.some.inj H
    go_wp2_with (first | (refine goesM 70 9 Tryz.func70 #[.slice A0_0 l0_0.length c0_0, .slice A1_0 l1_0.length c1_0] ?_; refine (laws_eqOpS.calls k _ _ l0_0 _ _ l1_0 false _ (cC HR0_0.out HB.out) HC0_0.out (cC HR1_0.out HB.out) HC1_0.out A3.out).mono ?_; rintro e wz3 ⟨rfl, hb⟩; refine ⟨_, rfl, ?_⟩; replace BKz1 := Aside0.mk (blk_below (bX BKz1.out) hb); replace BKz2 := Aside0.mk (blk_below (bX BKz2.out) hb); replace HB := Aside0.mk (below_step (hX HB.out) hb); clear hb))
    go_ret
    exact ⟨rE, (hX HB.out)⟩
end Go.Proofs.YtmljebgideecjaaGreat.P
namespace Go.Proofs.YtmljebgideecjaaGreat.P
open Go.Proofs.YtmljebgideecjaaGreatZ Go.RowKit Go.Proofs.YtmljebgideecjaaGreatW.PrintWords Go.Proofs.YtmljebgideecjaaGreatW.PrintLast Go.Proofs.YtmljebgideecjaaGreatW.PrintMore
attribute [local go_sem] max2_int min2_int max_two min_two max_three min_three max_four min_four   -- for this text's walks alone
set_option linter.unusedVariables false
set_option linter.unusedSimpArgs false
def laws_eqThreadS.l0 : Nat → List (S97) → List (S97) → Int → Option (Bool)
  | 0, _, _, _ => none
  | k + 1, x0, x1, x5 => if x5 < (x0.length : Int) then (if 0 ≤ x5 then (if x5 < (x1.length : Int) then ((laws_eqThread.f k ((rd_T97 x0 x5).f0) ((rd_T97 x0 x5).f1) ((rd_T97 x0 x5).f2) ((rd_T97 x0 x5).f3) ((rd_T97 x0 x5).f4) ((rd_T97 x1 x5).f0) ((rd_T97 x1 x5).f1) ((rd_T97 x1 x5).f2) ((rd_T97 x1 x5).f3) ((rd_T97 x1 x5).f4)).bind fun t103 => (if t103 = true then (laws_eqThreadS.l0 k x0 x1 (wrap64 (x5 + 1))) else (some false))) else (none)) else (none)) else (some true)
def laws_eqThreadS.f (k : Nat) (l0 : List (S97)) (l1 : List (S97)) : Option (Bool) := if (l0.length : Int) = (l1.length : Int) then (laws_eqThreadS.l0 k l0 l1 0) else (some false)
def laws_eqThreadS.T6 : Bool × List (List Nat × List Nat) := (true, [([], []), ([], []), ([0, 1], [0, 1]), ([2], [2]), ([], []), ([], []), ([4, 5], [4, 5]), ([6], [6]), ([3, 7], [3, 7]), ([8], [8])])
def laws_eqThreadS.B6 : List Nat := [0, 0, 3, 7, 0, 0, 48, 112, 255, 511]
theorem laws_eqThreadS.tab6 : rtab .any (opsOf Tryz.f51 6) = laws_eqThreadS.T6 := by kernel_rfl
theorem laws_eqThreadS.bits6 : waitsOk laws_eqThreadS.T6.2 laws_eqThreadS.B6 = true := by kernel_rfl
set_option maxHeartbeats 8000000 in
set_option maxRecDepth 100000 in
theorem laws_eqThreadS.calls (k : Nat) (A0 : Option Addr) (c0 : Nat) (l0 : List (S97)) (A1 : Option Addr) (c1 : Nat) (l1 : List (S97)) (r : Bool) (w : World) (hr0 : Kd.C k97 w A0 l0.length l0) (hc0 : l0.length ≤ c0) (hr1 : Kd.C k97 w A1 l1.length l1) (hc1 : l1.length ≤ c1) (h : laws_eqThreadS.f k l0 l1 = some r) :
    Calls Tryz.prog 51 #[.slice A0 l0.length c0, .slice A1 l1.length c1] w fun e w' => e = .returned (.bool r) ∧ Below w.heap.size w w' := by
  have hu97 := Tryz.underlying97
  have HR0 := Aside0.mk hr0
  have HC0 := Aside0.mk hc0
  clear hr0 hc0
  have HR1 := Aside0.mk hr1
  have HC1 := Aside0.mk hc1
  clear hr1 hc1
  have HB := Aside0.mk (Below.refl w.heap.size w)
  have H := h
  unfold laws_eqThreadS.f at H
  clear h
  go_enter Tryz.func51, Tryz.ntmps51
  by_cases c3 : (l0.length : Int) = (l1.length : Int)
  · rw [if_pos c3] at H
    obtain ⟨c3b0, c3b1⟩ := eqT c3
    have c3b2 : (l0.length == l1.length) = true := by first | simpa using c3 | (simp at c3 ⊢; omega)
    clear c3
    have H' := Aside0.mk H
    clear H
    go_wp2
    go_loopg [5] k (fun kq v5 w' => ∃ (x5_1 : Int), v5 = .int .i64 x5_1 ∧ Aside0 (laws_eqThreadS.l0 kq l0 l1 x5_1 = some r) ∧ Aside0 (kq ≤ k) ∧ Aside0 (Below w.heap.size w w'))
    case atStart => exact ⟨(0), rS, H', ⟨Nat.le_refl _⟩, ⟨(hX HB.out)⟩⟩
    case round =>
      clear H'
      try clear c1
      try clear p2
      try clear c3
      try clear c3b0
      try clear c3b1
      try clear c3b2
      obtain ⟨x5_1, rfl, HA, HKy1, HB⟩ := hrel
      cases gk with
      | zero => exact absurd HA.out (by simp [laws_eqThreadS.l0])
      | succ k1 =>
        have H := HA.out
        clear HA
        simp only [laws_eqThreadS.l0] at H
        by_cases c4 : x5_1 < (l0.length : Int)
        · rw [if_pos c4] at H
          have c4b0 := decide_eq_true c4
          clear c4
          replace H := ifP H; obtain ⟨c5, H⟩ := H
          have c5b0 := decide_eq_true c5
          clear c5
          replace H := ifP H; obtain ⟨c6, H⟩ := H
          have c6b0 := decide_eq_true c6
          clear c6
          replace H := bE H; obtain ⟨t103, A7, H⟩ := H
          try go_wp2
          replace HB := Aside0.mk (below_drew1 HB.out)
          have px1 : 0 ≤ (x5_1 : Int) := of_decide_eq_true (by first | (with_reducible assumption) | assumption)
          have qx1 : x5_1 < (l0.length : Int) := of_decide_eq_true (by first | (with_reducible assumption) | assumption)
          obtain ⟨adx1, Ax1, cx1, Ax2, cx2, Ax3, cx3, ex1, hxx1, hxx2, hxx3, hxx4, hxx5, hlx1, hix1, hlx2, hix2, hlx3, hix3⟩ := at_T97 HR0.out x5_1 px1 qx1
          have hwx1 := hxx5
          have hwx2 := hxx4
          have hwx3 := hxx3
          have hwx4 := hxx2
          have hwx5 := hxx1
          cases ex1
          replace hxx1 := (HB.out.cell (World.block_lt_of_cell? w _ hxx1)).trans hxx1
          replace hxx2 := (HB.out.cell (World.block_lt_of_cell? w _ hxx2)).trans hxx2
          replace hxx3 := (HB.out.cell (World.block_lt_of_cell? w _ hxx3)).trans hxx3
          replace hxx4 := (HB.out.cell (World.block_lt_of_cell? w _ hxx4)).trans hxx4
          replace hxx5 := (HB.out.cell (World.block_lt_of_cell? w _ hxx5)).trans hxx5
          have HRx1 := Aside0.mk hix1
          have HCx1 := Aside0.mk hlx1
          clear hix1 hlx1
          have HRx2 := Aside0.mk hix2
          have HCx2 := Aside0.mk hlx2
          clear hix2 hlx2
          have HRx3 := Aside0.mk hix3
          have HCx3 := Aside0.mk hlx3
          clear hix3 hlx3
          replace px1 := eq_true px1
          replace qx1 := eq_true qx1
          have px2 : 0 ≤ (x5_1 : Int) := of_decide_eq_true (by first | (with_reducible assumption) | assumption)
          have qx2 : x5_1 < (l1.length : Int) := of_decide_eq_true (by first | (with_reducible assumption) | assumption)
          obtain ⟨adx2, Ax4, cx4, Ax5, cx5, Ax6, cx6, ex2, hxx6, hxx7, hxx8, hxx9, hxx10, hlx4, hix4, hlx5, hix5, hlx6, hix6⟩ := at_T97 HR1.out x5_1 px2 qx2
          have hwx6 := hxx10
          have hwx7 := hxx9
          have hwx8 := hxx8
          have hwx9 := hxx7
          have hwx10 := hxx6
          cases ex2
          replace hxx6 := (HB.out.cell (World.block_lt_of_cell? w _ hxx6)).trans hxx6
          replace hxx7 := (HB.out.cell (World.block_lt_of_cell? w _ hxx7)).trans hxx7
          replace hxx8 := (HB.out.cell (World.block_lt_of_cell? w _ hxx8)).trans hxx8
          replace hxx9 := (HB.out.cell (World.block_lt_of_cell? w _ hxx9)).trans hxx9
          replace hxx10 := (HB.out.cell (World.block_lt_of_cell? w _ hxx10)).trans hxx10
          have HRx4 := Aside0.mk hix4
          have HCx4 := Aside0.mk hlx4
          clear hix4 hlx4
          have HRx5 := Aside0.mk hix5
          have HCx5 := Aside0.mk hlx5
          clear hix5 hlx5
          have HRx6 := Aside0.mk hix6
          have HCx6 := Aside0.mk hlx6
          clear hix6 hlx6
          replace px2 := eq_true px2
          replace qx2 := eq_true qx2
          refine start_ (n := 10) (S := fun w' => w'.cell? (adx1.add ((x5_1).toNat * 5)) = some (.slice Ax1 ((rd_T97 l0 x5_1).f0).length cx1) ∧ w'.cell? ⟨(adx1.add ((x5_1).toNat * 5)).block, (adx1.add ((x5_1).toNat * 5)).off + 1, none⟩ = some (.int .i64 ((rd_T97 l0 x5_1).f1)) ∧ w'.cell? ⟨(adx1.add ((x5_1).toNat * 5)).block, (adx1.add ((x5_1).toNat * 5)).off + 2, none⟩ = some (.bool ((rd_T97 l0 x5_1).f2)) ∧ w'.cell? ⟨(adx1.add ((x5_1).toNat * 5)).block, (adx1.add ((x5_1).toNat * 5)).off + 3, none⟩ = some (.slice Ax2 ((rd_T97 l0 x5_1).f3).length cx2) ∧ w'.cell? ⟨(adx1.add ((x5_1).toNat * 5)).block, (adx1.add ((x5_1).toNat * 5)).off + 4, none⟩ = some (.slice Ax3 ((rd_T97 l0 x5_1).f4).length cx3) ∧ w'.cell? (adx2.add ((x5_1).toNat * 5)) = some (.slice Ax4 ((rd_T97 l1 x5_1).f0).length cx4) ∧ w'.cell? ⟨(adx2.add ((x5_1).toNat * 5)).block, (adx2.add ((x5_1).toNat * 5)).off + 1, none⟩ = some (.int .i64 ((rd_T97 l1 x5_1).f1)) ∧ w'.cell? ⟨(adx2.add ((x5_1).toNat * 5)).block, (adx2.add ((x5_1).toNat * 5)).off + 2, none⟩ = some (.bool ((rd_T97 l1 x5_1).f2)) ∧ w'.cell? ⟨(adx2.add ((x5_1).toNat * 5)).block, (adx2.add ((x5_1).toNat * 5)).off + 3, none⟩ = some (.slice Ax5 ((rd_T97 l1 x5_1).f3).length cx5) ∧ w'.cell? ⟨(adx2.add ((x5_1).toNat * 5)).block, (adx2.add ((x5_1).toNat * 5)).off + 4, none⟩ = some (.slice Ax6 ((rd_T97 l1 x5_1).f4).length cx6)) (ds := []) (bm 10 0) (by kernel_rfl) rfl (by kernel_rfl) ⟨((HB.out.cell (World.block_lt_of_cell? w _ hwx5)).trans hwx5), ((HB.out.cell (World.block_lt_of_cell? w _ hwx4)).trans hwx4), ((HB.out.cell (World.block_lt_of_cell? w _ hwx3)).trans hwx3), ((HB.out.cell (World.block_lt_of_cell? w _ hwx2)).trans hwx2), ((HB.out.cell (World.block_lt_of_cell? w _ hwx1)).trans hwx1), ((HB.out.cell (World.block_lt_of_cell? w _ hwx10)).trans hwx10), ((HB.out.cell (World.block_lt_of_cell? w _ hwx9)).trans hwx9), ((HB.out.cell (World.block_lt_of_cell? w _ hwx8)).trans hwx8), ((HB.out.cell (World.block_lt_of_cell? w _ hwx7)).trans hwx7), ((HB.out.cell (World.block_lt_of_cell? w _ hwx6)).trans hwx6)⟩ (fun hHeld => ?_); refine with_tabW laws_eqThreadS.tab6 laws_eqThreadS.bits6 (fun HT_ HW_ => ?_)
          generalize wr.drew = wx1 at HB HRx1 HRx2 HRx3 HRx4 HRx5 HRx6 hxx1 hxx2 hxx3 hxx4 hxx5 hxx6 hxx7 hxx8 hxx9 hxx10 hHeld ⊢
          refine pZ 0 17 (bm 10 1) HT_.out ?_
          refine pZ 1 18 (bm 10 3) HT_.out ?_
          refine pZ 2 19 (bm 10 7) HT_.out ?_
          refine pZ 4 21 (bm 10 23) HT_.out ?_
          refine pZ 5 22 (bm 10 55) HT_.out ?_
          refine pZ 6 23 (bm 10 119) HT_.out ?_
          refine tZ 3 20 (bm 10 127) HT_.out HW_.out hHeld ?_
          refine tZ 7 24 (bm 10 255) HT_.out HW_.out hHeld ?_
          by_cases c8 : t103 = true
          · subst c8
            rw [if_pos rfl] at H
            have H' := Aside0.mk H
            clear H
            refine oZ 8 (some 25) (bm 10 511) HT_.out (fun K hK => ?_)
            refine goesN Tryz.func111 #[.agg #[.slice Ax1 ((rd_T97 l0 x5_1).f0).length cx1, .int .i64 ((rd_T97 l0 x5_1).f1), .bool ((rd_T97 l0 x5_1).f2), .slice Ax2 ((rd_T97 l0 x5_1).f3).length cx2, .slice Ax3 ((rd_T97 l0 x5_1).f4).length cx3], .agg #[.slice Ax4 ((rd_T97 l1 x5_1).f0).length cx4, .int .i64 ((rd_T97 l1 x5_1).f1), .bool ((rd_T97 l1 x5_1).f2), .slice Ax5 ((rd_T97 l1 x5_1).f3).length cx5, .slice Ax6 ((rd_T97 l1 x5_1).f4).length cx6]] ?_
            with_reducible refine (laws_eqThread.calls k1 _ _ ((rd_T97 l0 x5_1).f0) ((rd_T97 l0 x5_1).f1) ((rd_T97 l0 x5_1).f2) _ _ ((rd_T97 l0 x5_1).f3) _ _ ((rd_T97 l0 x5_1).f4) _ _ ((rd_T97 l1 x5_1).f0) ((rd_T97 l1 x5_1).f1) ((rd_T97 l1 x5_1).f2) _ _ ((rd_T97 l1 x5_1).f3) _ _ ((rd_T97 l1 x5_1).f4) true _ ?side1 ?side2 ?side3 ?side4 ?side5 ?side6 ?side7 ?side8 ?side9 ?side10 ?side11 ?side12 A7.out).mono ?_
            (case side1 => repeat (first | exact (Kd.C_below HRx1.out HB.out) | (with_reducible refine Kd.C_alloc ?_ _) | (with_reducible refine Kd.C_drewN ?_ _) | (with_reducible refine Kd.C_drew ?_)))
            (case side2 => exact HCx1.out)
            (case side3 => repeat (first | exact (Kd.C_below HRx2.out HB.out) | (with_reducible refine Kd.C_alloc ?_ _) | (with_reducible refine Kd.C_drewN ?_ _) | (with_reducible refine Kd.C_drew ?_)))
            (case side4 => exact HCx2.out)
            (case side5 => repeat (first | exact (Kd.C_below HRx3.out HB.out) | (with_reducible refine Kd.C_alloc ?_ _) | (with_reducible refine Kd.C_drewN ?_ _) | (with_reducible refine Kd.C_drew ?_)))
            (case side6 => exact HCx3.out)
            (case side7 => repeat (first | exact (Kd.C_below HRx4.out HB.out) | (with_reducible refine Kd.C_alloc ?_ _) | (with_reducible refine Kd.C_drewN ?_ _) | (with_reducible refine Kd.C_drew ?_)))
            (case side8 => exact HCx4.out)
            (case side9 => repeat (first | exact (Kd.C_below HRx5.out HB.out) | (with_reducible refine Kd.C_alloc ?_ _) | (with_reducible refine Kd.C_drewN ?_ _) | (with_reducible refine Kd.C_drew ?_)))
            (case side10 => exact HCx5.out)
            (case side11 => repeat (first | exact (Kd.C_below HRx6.out HB.out) | (with_reducible refine Kd.C_alloc ?_ _) | (with_reducible refine Kd.C_drewN ?_ _) | (with_reducible refine Kd.C_drew ?_)))
            (case side12 => exact HCx6.out)
            rintro e wx2 ⟨rfl, hb⟩
            refine ⟨_, rfl, ?_⟩
            replace HB := Aside0.mk (below_step (hX HB.out) hb)
            (try clear hb)
            (try clear hb2)
            (try clear hk)
            (try clear hi)
            refine hK.out _ _ ⟨((HB.out.cell (World.block_lt_of_cell? w _ hwx5)).trans hwx5), ((HB.out.cell (World.block_lt_of_cell? w _ hwx4)).trans hwx4), ((HB.out.cell (World.block_lt_of_cell? w _ hwx3)).trans hwx3), ((HB.out.cell (World.block_lt_of_cell? w _ hwx2)).trans hwx2), ((HB.out.cell (World.block_lt_of_cell? w _ hwx1)).trans hwx1), ((HB.out.cell (World.block_lt_of_cell? w _ hwx10)).trans hwx10), ((HB.out.cell (World.block_lt_of_cell? w _ hwx9)).trans hwx9), ((HB.out.cell (World.block_lt_of_cell? w _ hwx8)).trans hwx8), ((HB.out.cell (World.block_lt_of_cell? w _ hwx7)).trans hwx7), ((HB.out.cell (World.block_lt_of_cell? w _ hwx6)).trans hwx6)⟩ (fun hHeld => ?_)
            clear hK K
            refine nZ 25 ?_
            refine pZ 9 26 (bm 10 1023) HT_.out ?_
            refine done_ (done_of HT_.out (by kernel_rfl)) ?_
            try go_wp2
            go_roundg k1
            case measure => have := HKy1.out; omega
            case rel => exact ⟨(wrap64 (x5_1 + 1)), rS, H', ⟨by have := HKy1.out; omega⟩, ⟨(hX HB.out)⟩⟩
          · replace c8 := Bool.eq_false_iff.mpr c8
            subst c8
            rw [if_neg nft] at H
            obtain rfl := Option.some.inj H
            refine oZ 8 (some 25) (bm 10 511) HT_.out (fun K hK => ?_)
            refine goesN Tryz.func111 #[.agg #[.slice Ax1 ((rd_T97 l0 x5_1).f0).length cx1, .int .i64 ((rd_T97 l0 x5_1).f1), .bool ((rd_T97 l0 x5_1).f2), .slice Ax2 ((rd_T97 l0 x5_1).f3).length cx2, .slice Ax3 ((rd_T97 l0 x5_1).f4).length cx3], .agg #[.slice Ax4 ((rd_T97 l1 x5_1).f0).length cx4, .int .i64 ((rd_T97 l1 x5_1).f1), .bool ((rd_T97 l1 x5_1).f2), .slice Ax5 ((rd_T97 l1 x5_1).f3).length cx5, .slice Ax6 ((rd_T97 l1 x5_1).f4).length cx6]] ?_
            with_reducible refine (laws_eqThread.calls k1 _ _ ((rd_T97 l0 x5_1).f0) ((rd_T97 l0 x5_1).f1) ((rd_T97 l0 x5_1).f2) _ _ ((rd_T97 l0 x5_1).f3) _ _ ((rd_T97 l0 x5_1).f4) _ _ ((rd_T97 l1 x5_1).f0) ((rd_T97 l1 x5_1).f1) ((rd_T97 l1 x5_1).f2) _ _ ((rd_T97 l1 x5_1).f3) _ _ ((rd_T97 l1 x5_1).f4) false _ ?side1 ?side2 ?side3 ?side4 ?side5 ?side6 ?side7 ?side8 ?side9 ?side10 ?side11 ?side12 A7.out).mono ?_
            (case side1 => repeat (first | exact (Kd.C_below HRx1.out HB.out) | (with_reducible refine Kd.C_alloc ?_ _) | (with_reducible refine Kd.C_drewN ?_ _) | (with_reducible refine Kd.C_drew ?_)))
            (case side2 => exact HCx1.out)
            (case side3 => repeat (first | exact (Kd.C_below HRx2.out HB.out) | (with_reducible refine Kd.C_alloc ?_ _) | (with_reducible refine Kd.C_drewN ?_ _) | (with_reducible refine Kd.C_drew ?_)))
            (case side4 => exact HCx2.out)
            (case side5 => repeat (first | exact (Kd.C_below HRx3.out HB.out) | (with_reducible refine Kd.C_alloc ?_ _) | (with_reducible refine Kd.C_drewN ?_ _) | (with_reducible refine Kd.C_drew ?_)))
            (case side6 => exact HCx3.out)
            (case side7 => repeat (first | exact (Kd.C_below HRx4.out HB.out) | (with_reducible refine Kd.C_alloc ?_ _) | (with_reducible refine Kd.C_drewN ?_ _) | (with_reducible refine Kd.C_drew ?_)))
            (case side8 => exact HCx4.out)
            (case side9 => repeat (first | exact (Kd.C_below HRx5.out HB.out) | (with_reducible refine Kd.C_alloc ?_ _) | (with_reducible refine Kd.C_drewN ?_ _) | (with_reducible refine Kd.C_drew ?_)))
            (case side10 => exact HCx5.out)
            (case side11 => repeat (first | exact (Kd.C_below HRx6.out HB.out) | (with_reducible refine Kd.C_alloc ?_ _) | (with_reducible refine Kd.C_drewN ?_ _) | (with_reducible refine Kd.C_drew ?_)))
            (case side12 => exact HCx6.out)
            rintro e wx2 ⟨rfl, hb⟩
            refine ⟨_, rfl, ?_⟩
            replace HB := Aside0.mk (below_step (hX HB.out) hb)
            (try clear hb)
            (try clear hb2)
            (try clear hk)
            (try clear hi)
            refine hK.out _ _ ⟨((HB.out.cell (World.block_lt_of_cell? w _ hwx5)).trans hwx5), ((HB.out.cell (World.block_lt_of_cell? w _ hwx4)).trans hwx4), ((HB.out.cell (World.block_lt_of_cell? w _ hwx3)).trans hwx3), ((HB.out.cell (World.block_lt_of_cell? w _ hwx2)).trans hwx2), ((HB.out.cell (World.block_lt_of_cell? w _ hwx1)).trans hwx1), ((HB.out.cell (World.block_lt_of_cell? w _ hwx10)).trans hwx10), ((HB.out.cell (World.block_lt_of_cell? w _ hwx9)).trans hwx9), ((HB.out.cell (World.block_lt_of_cell? w _ hwx8)).trans hwx8), ((HB.out.cell (World.block_lt_of_cell? w _ hwx7)).trans hwx7), ((HB.out.cell (World.block_lt_of_cell? w _ hwx6)).trans hwx6)⟩ (fun hHeld => ?_)
            clear hK K
            refine nZ 25 ?_
            refine pZ 9 26 (bm 10 1023) HT_.out ?_
            refine done_ (done_of HT_.out (by kernel_rfl)) ?_
            try go_wp2
            go_ret
            exact ⟨rE, (hX HB.out)⟩
        · rw [if_neg c4] at H
          have c4b0 := decide_eq_false c4
          clear c4
          obtain rfl := Option.some.inj H
          go_wp2
          go_ret
          exact ⟨rE, (hX HB.out)⟩
  · rw [if_neg c3] at H
    obtain ⟨c3b0, c3b1⟩ := eqF c3
    have c3b2 : (l0.length == l1.length) = false := by first | simpa using c3 | (simp at c3 ⊢; omega)
    obtain rfl := Option.some.inj H
    go_wp2
    go_ret
    exact ⟨rE, (hX HB.out)⟩
end Go.Proofs.YtmljebgideecjaaGreat.P
namespace Go.Proofs.YtmljebgideecjaaGreat.P
open Go.Proofs.YtmljebgideecjaaGreatZ Go.RowKit Go.Proofs.YtmljebgideecjaaGreatW.PrintWords Go.Proofs.YtmljebgideecjaaGreatW.PrintLast Go.Proofs.YtmljebgideecjaaGreatW.PrintMore
attribute [local go_sem] max2_int min2_int max_two min_two max_three min_three max_four min_four   -- for this text's walks alone
set_option linter.unusedVariables false
set_option linter.unusedSimpArgs false
def laws_eqCall.f (k : Nat) (a0_0 : Int) (a0_1 : Int) (a0_2 : Int) (a0_3 : Int) (a0_4 : Int) (a0_5 : Int) (a0_6 : Int) (a0_7 : Int) (l0_8 : List Int) (a1_0 : Int) (a1_1 : Int) (a1_2 : Int) (a1_3 : Int) (a1_4 : Int) (a1_5 : Int) (a1_6 : Int) (a1_7 : Int) (l1_8 : List Int) : Option (Bool) := if a0_0 = a1_0 then ((laws_eqOp.f a0_1 a0_2 a0_3 a1_1 a1_2 a1_3).bind fun t103 => (if t103 = true then (if a0_4 = a1_4 then (if a0_5 = a1_5 then (if a0_6 = a1_6 then ((laws_eqRes.f k a0_7 l0_8 a1_7 l1_8).bind fun t104 => (if t104 = true then (some true) else (some false))) else (some false)) else (some false)) else (some false)) else (some false))) else (some false)
set_option maxHeartbeats 8000000 in
set_option maxRecDepth 100000 in
theorem laws_eqCall.calls (k : Nat) (a0_0 : Int) (a0_1 : Int) (a0_2 : Int) (a0_3 : Int) (a0_4 : Int) (a0_5 : Int) (a0_6 : Int) (a0_7 : Int) (A0_8 : Option Addr) (c0_8 : Nat) (l0_8 : List Int) (a1_0 : Int) (a1_1 : Int) (a1_2 : Int) (a1_3 : Int) (a1_4 : Int) (a1_5 : Int) (a1_6 : Int) (a1_7 : Int) (A1_8 : Option Addr) (c1_8 : Nat) (l1_8 : List Int) (r : Bool) (w : World) (hr0_8 : Kd.C (Kd.int .i64) w A0_8 l0_8.length l0_8) (hc0_8 : l0_8.length ≤ c0_8) (hr1_8 : Kd.C (Kd.int .i64) w A1_8 l1_8.length l1_8) (hc1_8 : l1_8.length ≤ c1_8) (h : laws_eqCall.f k a0_0 a0_1 a0_2 a0_3 a0_4 a0_5 a0_6 a0_7 l0_8 a1_0 a1_1 a1_2 a1_3 a1_4 a1_5 a1_6 a1_7 l1_8 = some r) :
    Calls Tryz.prog 112 #[.agg #[.int .i64 a0_0, .int .i64 a0_1, .int .i64 a0_2, .int .i64 a0_3, .int .i64 a0_4, .int .i64 a0_5, .int .i64 a0_6, .int .i64 a0_7, .slice A0_8 l0_8.length c0_8], .agg #[.int .i64 a1_0, .int .i64 a1_1, .int .i64 a1_2, .int .i64 a1_3, .int .i64 a1_4, .int .i64 a1_5, .int .i64 a1_6, .int .i64 a1_7, .slice A1_8 l1_8.length c1_8]] w fun e w' => e = .returned (.bool r) ∧ Below w.heap.size w w' := by
  have hu73 := Tryz.underlying73
  have hu69 := Tryz.underlying69
  have hu71 := Tryz.underlying71
  have HR0_8 := Aside0.mk hr0_8
  have HC0_8 := Aside0.mk hc0_8
  clear hr0_8 hc0_8
  have HR1_8 := Aside0.mk hr1_8
  have HC1_8 := Aside0.mk hc1_8
  clear hr1_8 hc1_8
  have HB := Aside0.mk (Below.refl w.heap.size w)
  have H := h
  unfold laws_eqCall.f at H
  clear h
  go_enter Tryz.func112, Tryz.ntmps112
  go_wp2_with (first | (refine boxE 2 #[.int .i64 a0_0, .int .i64 a0_1, .int .i64 a0_2, .int .i64 a0_3, .int .i64 a0_4, .int .i64 a0_5, .int .i64 a0_6, .int .i64 a0_7, .slice A0_8 l0_8.length c0_8] 73 ?_; intro gbz1 hg wz1 hbox hb; have BKz1 := Aside0.mk (hbox); have GWz1 := Aside0.mk (gX' hg (hX HB.out)); have GEz1 := Aside0.mk (gX' hg (hX HB.out)); replace HB := Aside0.mk (below_step (hX HB.out) hb); clear hb hbox hg) | (refine boxE 3 #[.int .i64 a1_0, .int .i64 a1_1, .int .i64 a1_2, .int .i64 a1_3, .int .i64 a1_4, .int .i64 a1_5, .int .i64 a1_6, .int .i64 a1_7, .slice A1_8 l1_8.length c1_8] 73 ?_; intro gbz2 hg wz2 hbox hb; have BKz2 := Aside0.mk (hbox); have GWz2 := Aside0.mk (gX' hg (hX HB.out)); have GEz2 := Aside0.mk (gX' hg (hX HB.out)); have NBz1 := Aside0.mk (gL hg (bX BKz1.out)); have NBz2 := Aside0.mk (gG hg (bX BKz1.out)); replace BKz1 := Aside0.mk (blk_below (bX BKz1.out) hb); replace HB := Aside0.mk (below_step (hX HB.out) hb); clear hb hbox hg; have hnbz1 := NBz1.out; have hncz1 := NBz2.out; obtain ⟨hczz1, hczz2, hczz3, hczz4, hczz5, hczz6, hczz7, hczz8, hczz9, hfzz1, hfzz2, hfzz3, hfzz4, hfzz5, hfzz6, hfzz7, hfzz8, hfzz9⟩ := cZ9 BKz1.out; obtain ⟨hczz10, hczz11, hczz12, hczz13, hczz14, hczz15, hczz16, hczz17, hczz18, hfzz10, hfzz11, hfzz12, hfzz13, hfzz14, hfzz15, hfzz16, hfzz17, hfzz18⟩ := cZ9 BKz2.out; refine Stop.out ?_))
  refine ⟨?_⟩
  by_cases c3 : a0_0 = a1_0
  · rw [if_pos c3] at H
    obtain ⟨c3b0, c3b1⟩ := eqT c3
    clear c3
    replace H := bE H; obtain ⟨t103, A4, H⟩ := H
    by_cases c5 : t103 = true
    · subst c5
      rw [if_pos rfl] at H
      go_wp2_with (first | (refine goesM 128 14 Tryz.func128 #[.agg #[.int .i64 a0_1, .int .i64 a0_2, .int .i64 a0_3], .agg #[.int .i64 a1_1, .int .i64 a1_2, .int .i64 a1_3]] ?_; refine (laws_eqOp.calls a0_1 a0_2 a0_3 a1_1 a1_2 a1_3 true _ A4.out).mono ?_; rintro e wz3 ⟨rfl, hb⟩; refine ⟨_, rfl, ?_⟩; replace BKz1 := Aside0.mk (blk_below (bX BKz1.out) hb); replace BKz2 := Aside0.mk (blk_below (bX BKz2.out) hb); replace HB := Aside0.mk (below_step (hX HB.out) hb); clear hb; obtain ⟨hczz19, hczz20, hczz21, hczz22, hczz23, hczz24, hczz25, hczz26, hczz27, hfzz19, hfzz20, hfzz21, hfzz22, hfzz23, hfzz24, hfzz25, hfzz26, hfzz27⟩ := cZ9 BKz1.out; obtain ⟨hczz28, hczz29, hczz30, hczz31, hczz32, hczz33, hczz34, hczz35, hczz36, hfzz28, hfzz29, hfzz30, hfzz31, hfzz32, hfzz33, hfzz34, hfzz35, hfzz36⟩ := cZ9 BKz2.out; refine Stop.out ?_))
      refine ⟨?_⟩
      by_cases c6 : a0_4 = a1_4
      · rw [if_pos c6] at H
        obtain ⟨c6b0, c6b1⟩ := eqT c6
        clear c6
        by_cases c7 : a0_5 = a1_5
        · rw [if_pos c7] at H
          obtain ⟨c7b0, c7b1⟩ := eqT c7
          clear c7
          by_cases c8 : a0_6 = a1_6
          · rw [if_pos c8] at H
            obtain ⟨c8b0, c8b1⟩ := eqT c8
            clear c8
            replace H := bE H; obtain ⟨t104, A9, H⟩ := H
            by_cases c10 : t104 = true
            · subst c10
              rw [if_pos rfl] at H
              obtain rfl := Option.some.inj H
              go_wp2_with (first | (refine goesM 190 35 Tryz.func190 #[.agg #[.int .i64 a0_7, .slice A0_8 l0_8.length c0_8], .agg #[.int .i64 a1_7, .slice A1_8 l1_8.length c1_8]] ?_; refine (laws_eqRes.calls k a0_7 _ _ l0_8 a1_7 _ _ l1_8 true _ (cC HR0_8.out HB.out) HC0_8.out (cC HR1_8.out HB.out) HC1_8.out A9.out).mono ?_; rintro e wz4 ⟨rfl, hb⟩; refine ⟨_, rfl, ?_⟩; replace BKz1 := Aside0.mk (blk_below (bX BKz1.out) hb); replace BKz2 := Aside0.mk (blk_below (bX BKz2.out) hb); replace HB := Aside0.mk (below_step (hX HB.out) hb); clear hb))
              go_ret
              exact ⟨rE, (hX HB.out)⟩
            · replace c10 := Bool.eq_false_iff.mpr c10
              subst c10
              rw [if_neg nft] at H
              obtain rfl := Option.some.inj H
              go_wp2_with (first | (refine goesM 190 35 Tryz.func190 #[.agg #[.int .i64 a0_7, .slice A0_8 l0_8.length c0_8], .agg #[.int .i64 a1_7, .slice A1_8 l1_8.length c1_8]] ?_; refine (laws_eqRes.calls k a0_7 _ _ l0_8 a1_7 _ _ l1_8 false _ (cC HR0_8.out HB.out) HC0_8.out (cC HR1_8.out HB.out) HC1_8.out A9.out).mono ?_; rintro e wz4 ⟨rfl, hb⟩; refine ⟨_, rfl, ?_⟩; replace BKz1 := Aside0.mk (blk_below (bX BKz1.out) hb); replace BKz2 := Aside0.mk (blk_below (bX BKz2.out) hb); replace HB := Aside0.mk (below_step (hX HB.out) hb); clear hb))
              go_ret
              exact ⟨rE, (hX HB.out)⟩
          · rw [if_neg c8] at H
            obtain ⟨c8b0, c8b1⟩ := eqF c8
            obtain rfl := Option.some.inj H
            go_wp2
            go_ret
            exact ⟨rE, (hX HB.out)⟩
        · rw [if_neg c7] at H
          obtain ⟨c7b0, c7b1⟩ := eqF c7
          obtain rfl := Option.some.inj H
          go_wp2
          go_ret
          exact ⟨rE, (hX HB.out)⟩
      · rw [if_neg c6] at H
        obtain ⟨c6b0, c6b1⟩ := eqF c6
        obtain rfl := Option.some.inj H
        go_wp2
        go_ret
        exact ⟨rE, (hX HB.out)⟩
    · replace c5 := Bool.eq_false_iff.mpr c5
      subst c5
      rw [if_neg nft] at H
      obtain rfl := Option.some.inj H
      go_wp2_with (first | (refine goesM 128 14 Tryz.func128 #[.agg #[.int .i64 a0_1, .int .i64 a0_2, .int .i64 a0_3], .agg #[.int .i64 a1_1, .int .i64 a1_2, .int .i64 a1_3]] ?_; refine (laws_eqOp.calls a0_1 a0_2 a0_3 a1_1 a1_2 a1_3 false _ A4.out).mono ?_; rintro e wz3 ⟨rfl, hb⟩; refine ⟨_, rfl, ?_⟩; replace BKz1 := Aside0.mk (blk_below (bX BKz1.out) hb); replace BKz2 := Aside0.mk (blk_below (bX BKz2.out) hb); replace HB := Aside0.mk (below_step (hX HB.out) hb); clear hb))
      go_ret
      exact ⟨rE, (hX HB.out)⟩
  · rw [if_neg c3] at H
    obtain ⟨c3b0, c3b1⟩ := eqF c3
    obtain rfl := Option.some.inj H
    go_wp2
    go_ret
    exact ⟨rE, (hX HB.out)⟩
end Go.Proofs.YtmljebgideecjaaGreat.P
namespace Go.Proofs.YtmljebgideecjaaGreat.P
open Go.Proofs.YtmljebgideecjaaGreatZ Go.RowKit Go.Proofs.YtmljebgideecjaaGreatW.PrintWords Go.Proofs.YtmljebgideecjaaGreatW.PrintLast Go.Proofs.YtmljebgideecjaaGreatW.PrintMore
attribute [local go_sem] max2_int min2_int max_two min_two max_three min_three max_four min_four   -- for this text's walks alone
set_option linter.unusedVariables false
set_option linter.unusedSimpArgs false
def laws_eqCallS.l0 : Nat → List (S73) → List (S73) → Int → Option (Bool)
  | 0, _, _, _ => none
  | k + 1, x0, x1, x5 => if x5 < (x0.length : Int) then (if 0 ≤ x5 then (if x5 < (x1.length : Int) then ((laws_eqCall.f k ((rd_T73 x0 x5).f0) ((rd_T73 x0 x5).f1.f0) ((rd_T73 x0 x5).f1.f1) ((rd_T73 x0 x5).f1.f2) ((rd_T73 x0 x5).f2) ((rd_T73 x0 x5).f3) ((rd_T73 x0 x5).f4) ((rd_T73 x0 x5).f5.f0) ((rd_T73 x0 x5).f5.f1) ((rd_T73 x1 x5).f0) ((rd_T73 x1 x5).f1.f0) ((rd_T73 x1 x5).f1.f1) ((rd_T73 x1 x5).f1.f2) ((rd_T73 x1 x5).f2) ((rd_T73 x1 x5).f3) ((rd_T73 x1 x5).f4) ((rd_T73 x1 x5).f5.f0) ((rd_T73 x1 x5).f5.f1)).bind fun t103 => (if t103 = true then (laws_eqCallS.l0 k x0 x1 (wrap64 (x5 + 1))) else (some false))) else (none)) else (none)) else (some true)
def laws_eqCallS.f (k : Nat) (l0 : List (S73)) (l1 : List (S73)) : Option (Bool) := if (l0.length : Int) = (l1.length : Int) then (laws_eqCallS.l0 k l0 l1 0) else (some false)
def laws_eqCallS.T6 : Bool × List (List Nat × List Nat) := (true, [([], []), ([], []), ([0, 1], [0, 1]), ([2], [2]), ([], []), ([], []), ([4, 5], [4, 5]), ([6], [6]), ([3, 7], [3, 7]), ([8], [8])])
def laws_eqCallS.B6 : List Nat := [0, 0, 3, 7, 0, 0, 48, 112, 255, 511]
theorem laws_eqCallS.tab6 : rtab .any (opsOf Tryz.f52 6) = laws_eqCallS.T6 := by kernel_rfl
theorem laws_eqCallS.bits6 : waitsOk laws_eqCallS.T6.2 laws_eqCallS.B6 = true := by kernel_rfl
set_option maxHeartbeats 8000000 in
set_option maxRecDepth 100000 in
theorem laws_eqCallS.calls (k : Nat) (A0 : Option Addr) (c0 : Nat) (l0 : List (S73)) (A1 : Option Addr) (c1 : Nat) (l1 : List (S73)) (r : Bool) (w : World) (hr0 : Kd.C k73 w A0 l0.length l0) (hc0 : l0.length ≤ c0) (hr1 : Kd.C k73 w A1 l1.length l1) (hc1 : l1.length ≤ c1) (h : laws_eqCallS.f k l0 l1 = some r) :
    Calls Tryz.prog 52 #[.slice A0 l0.length c0, .slice A1 l1.length c1] w fun e w' => e = .returned (.bool r) ∧ Below w.heap.size w w' := by
  have hu73 := Tryz.underlying73
  have HR0 := Aside0.mk hr0
  have HC0 := Aside0.mk hc0
  clear hr0 hc0
  have HR1 := Aside0.mk hr1
  have HC1 := Aside0.mk hc1
  clear hr1 hc1
  have HB := Aside0.mk (Below.refl w.heap.size w)
  have H := h
  unfold laws_eqCallS.f at H
  clear h
  go_enter Tryz.func52, Tryz.ntmps52
  by_cases c3 : (l0.length : Int) = (l1.length : Int)
  · rw [if_pos c3] at H
    obtain ⟨c3b0, c3b1⟩ := eqT c3
    have c3b2 : (l0.length == l1.length) = true := by first | simpa using c3 | (simp at c3 ⊢; omega)
    clear c3
    have H' := Aside0.mk H
    clear H
    go_wp2
    go_loopg [5] k (fun kq v5 w' => ∃ (x5_1 : Int), v5 = .int .i64 x5_1 ∧ Aside0 (laws_eqCallS.l0 kq l0 l1 x5_1 = some r) ∧ Aside0 (kq ≤ k) ∧ Aside0 (Below w.heap.size w w'))
    case atStart => exact ⟨(0), rS, H', ⟨Nat.le_refl _⟩, ⟨(hX HB.out)⟩⟩
    case round =>
      clear H'
      try clear c1
      try clear p2
      try clear c3
      try clear c3b0
      try clear c3b1
      try clear c3b2
      obtain ⟨x5_1, rfl, HA, HKy1, HB⟩ := hrel
      cases gk with
      | zero => exact absurd HA.out (by simp [laws_eqCallS.l0])
      | succ k1 =>
        have H := HA.out
        clear HA
        simp only [laws_eqCallS.l0] at H
        by_cases c4 : x5_1 < (l0.length : Int)
        · rw [if_pos c4] at H
          have c4b0 := decide_eq_true c4
          clear c4
          replace H := ifP H; obtain ⟨c5, H⟩ := H
          have c5b0 := decide_eq_true c5
          clear c5
          replace H := ifP H; obtain ⟨c6, H⟩ := H
          have c6b0 := decide_eq_true c6
          clear c6
          replace H := bE H; obtain ⟨t103, A7, H⟩ := H
          try go_wp2
          replace HB := Aside0.mk (below_drew1 HB.out)
          have px1 : 0 ≤ (x5_1 : Int) := of_decide_eq_true (by first | (with_reducible assumption) | assumption)
          have qx1 : x5_1 < (l0.length : Int) := of_decide_eq_true (by first | (with_reducible assumption) | assumption)
          obtain ⟨adx1, Ax1, cx1, ex1, hxx1, hxx2, hxx3, hxx4, hxx5, hxx6, hxx7, hxx8, hxx9, hlx1, hix1⟩ := at_T73 HR0.out x5_1 px1 qx1
          have hwx1 := hxx9
          have hwx2 := hxx8
          have hwx3 := hxx7
          have hwx4 := hxx6
          have hwx5 := hxx5
          have hwx6 := hxx4
          have hwx7 := hxx3
          have hwx8 := hxx2
          have hwx9 := hxx1
          cases ex1
          replace hxx1 := (HB.out.cell (World.block_lt_of_cell? w _ hxx1)).trans hxx1
          replace hxx2 := (HB.out.cell (World.block_lt_of_cell? w _ hxx2)).trans hxx2
          replace hxx3 := (HB.out.cell (World.block_lt_of_cell? w _ hxx3)).trans hxx3
          replace hxx4 := (HB.out.cell (World.block_lt_of_cell? w _ hxx4)).trans hxx4
          replace hxx5 := (HB.out.cell (World.block_lt_of_cell? w _ hxx5)).trans hxx5
          replace hxx6 := (HB.out.cell (World.block_lt_of_cell? w _ hxx6)).trans hxx6
          replace hxx7 := (HB.out.cell (World.block_lt_of_cell? w _ hxx7)).trans hxx7
          replace hxx8 := (HB.out.cell (World.block_lt_of_cell? w _ hxx8)).trans hxx8
          replace hxx9 := (HB.out.cell (World.block_lt_of_cell? w _ hxx9)).trans hxx9
          have HRx1 := Aside0.mk hix1
          have HCx1 := Aside0.mk hlx1
          clear hix1 hlx1
          replace px1 := eq_true px1
          replace qx1 := eq_true qx1
          have px2 : 0 ≤ (x5_1 : Int) := of_decide_eq_true (by first | (with_reducible assumption) | assumption)
          have qx2 : x5_1 < (l1.length : Int) := of_decide_eq_true (by first | (with_reducible assumption) | assumption)
          obtain ⟨adx2, Ax2, cx2, ex2, hxx10, hxx11, hxx12, hxx13, hxx14, hxx15, hxx16, hxx17, hxx18, hlx2, hix2⟩ := at_T73 HR1.out x5_1 px2 qx2
          have hwx10 := hxx18
          have hwx11 := hxx17
          have hwx12 := hxx16
          have hwx13 := hxx15
          have hwx14 := hxx14
          have hwx15 := hxx13
          have hwx16 := hxx12
          have hwx17 := hxx11
          have hwx18 := hxx10
          cases ex2
          replace hxx10 := (HB.out.cell (World.block_lt_of_cell? w _ hxx10)).trans hxx10
          replace hxx11 := (HB.out.cell (World.block_lt_of_cell? w _ hxx11)).trans hxx11
          replace hxx12 := (HB.out.cell (World.block_lt_of_cell? w _ hxx12)).trans hxx12
          replace hxx13 := (HB.out.cell (World.block_lt_of_cell? w _ hxx13)).trans hxx13
          replace hxx14 := (HB.out.cell (World.block_lt_of_cell? w _ hxx14)).trans hxx14
          replace hxx15 := (HB.out.cell (World.block_lt_of_cell? w _ hxx15)).trans hxx15
          replace hxx16 := (HB.out.cell (World.block_lt_of_cell? w _ hxx16)).trans hxx16
          replace hxx17 := (HB.out.cell (World.block_lt_of_cell? w _ hxx17)).trans hxx17
          replace hxx18 := (HB.out.cell (World.block_lt_of_cell? w _ hxx18)).trans hxx18
          have HRx2 := Aside0.mk hix2
          have HCx2 := Aside0.mk hlx2
          clear hix2 hlx2
          replace px2 := eq_true px2
          replace qx2 := eq_true qx2
          refine start_ (n := 10) (S := fun w' => w'.cell? (adx1.add ((x5_1).toNat * 9)) = some (.int .i64 ((rd_T73 l0 x5_1).f0)) ∧ w'.cell? ⟨(adx1.add ((x5_1).toNat * 9)).block, (adx1.add ((x5_1).toNat * 9)).off + 1, none⟩ = some (.int .i64 ((rd_T73 l0 x5_1).f1.f0)) ∧ w'.cell? ⟨(adx1.add ((x5_1).toNat * 9)).block, (adx1.add ((x5_1).toNat * 9)).off + 2, none⟩ = some (.int .i64 ((rd_T73 l0 x5_1).f1.f1)) ∧ w'.cell? ⟨(adx1.add ((x5_1).toNat * 9)).block, (adx1.add ((x5_1).toNat * 9)).off + 3, none⟩ = some (.int .i64 ((rd_T73 l0 x5_1).f1.f2)) ∧ w'.cell? ⟨(adx1.add ((x5_1).toNat * 9)).block, (adx1.add ((x5_1).toNat * 9)).off + 4, none⟩ = some (.int .i64 ((rd_T73 l0 x5_1).f2)) ∧ w'.cell? ⟨(adx1.add ((x5_1).toNat * 9)).block, (adx1.add ((x5_1).toNat * 9)).off + 5, none⟩ = some (.int .i64 ((rd_T73 l0 x5_1).f3)) ∧ w'.cell? ⟨(adx1.add ((x5_1).toNat * 9)).block, (adx1.add ((x5_1).toNat * 9)).off + 6, none⟩ = some (.int .i64 ((rd_T73 l0 x5_1).f4)) ∧ w'.cell? ⟨(adx1.add ((x5_1).toNat * 9)).block, (adx1.add ((x5_1).toNat * 9)).off + 7, none⟩ = some (.int .i64 ((rd_T73 l0 x5_1).f5.f0)) ∧ w'.cell? ⟨(adx1.add ((x5_1).toNat * 9)).block, (adx1.add ((x5_1).toNat * 9)).off + 8, none⟩ = some (.slice Ax1 ((rd_T73 l0 x5_1).f5.f1).length cx1) ∧ w'.cell? (adx2.add ((x5_1).toNat * 9)) = some (.int .i64 ((rd_T73 l1 x5_1).f0)) ∧ w'.cell? ⟨(adx2.add ((x5_1).toNat * 9)).block, (adx2.add ((x5_1).toNat * 9)).off + 1, none⟩ = some (.int .i64 ((rd_T73 l1 x5_1).f1.f0)) ∧ w'.cell? ⟨(adx2.add ((x5_1).toNat * 9)).block, (adx2.add ((x5_1).toNat * 9)).off + 2, none⟩ = some (.int .i64 ((rd_T73 l1 x5_1).f1.f1)) ∧ w'.cell? ⟨(adx2.add ((x5_1).toNat * 9)).block, (adx2.add ((x5_1).toNat * 9)).off + 3, none⟩ = some (.int .i64 ((rd_T73 l1 x5_1).f1.f2)) ∧ w'.cell? ⟨(adx2.add ((x5_1).toNat * 9)).block, (adx2.add ((x5_1).toNat * 9)).off + 4, none⟩ = some (.int .i64 ((rd_T73 l1 x5_1).f2)) ∧ w'.cell? ⟨(adx2.add ((x5_1).toNat * 9)).block, (adx2.add ((x5_1).toNat * 9)).off + 5, none⟩ = some (.int .i64 ((rd_T73 l1 x5_1).f3)) ∧ w'.cell? ⟨(adx2.add ((x5_1).toNat * 9)).block, (adx2.add ((x5_1).toNat * 9)).off + 6, none⟩ = some (.int .i64 ((rd_T73 l1 x5_1).f4)) ∧ w'.cell? ⟨(adx2.add ((x5_1).toNat * 9)).block, (adx2.add ((x5_1).toNat * 9)).off + 7, none⟩ = some (.int .i64 ((rd_T73 l1 x5_1).f5.f0)) ∧ w'.cell? ⟨(adx2.add ((x5_1).toNat * 9)).block, (adx2.add ((x5_1).toNat * 9)).off + 8, none⟩ = some (.slice Ax2 ((rd_T73 l1 x5_1).f5.f1).length cx2)) (ds := []) (bm 10 0) (by kernel_rfl) rfl (by kernel_rfl) ⟨((HB.out.cell (World.block_lt_of_cell? w _ hwx9)).trans hwx9), ((HB.out.cell (World.block_lt_of_cell? w _ hwx8)).trans hwx8), ((HB.out.cell (World.block_lt_of_cell? w _ hwx7)).trans hwx7), ((HB.out.cell (World.block_lt_of_cell? w _ hwx6)).trans hwx6), ((HB.out.cell (World.block_lt_of_cell? w _ hwx5)).trans hwx5), ((HB.out.cell (World.block_lt_of_cell? w _ hwx4)).trans hwx4), ((HB.out.cell (World.block_lt_of_cell? w _ hwx3)).trans hwx3), ((HB.out.cell (World.block_lt_of_cell? w _ hwx2)).trans hwx2), ((HB.out.cell (World.block_lt_of_cell? w _ hwx1)).trans hwx1), ((HB.out.cell (World.block_lt_of_cell? w _ hwx18)).trans hwx18), ((HB.out.cell (World.block_lt_of_cell? w _ hwx17)).trans hwx17), ((HB.out.cell (World.block_lt_of_cell? w _ hwx16)).trans hwx16), ((HB.out.cell (World.block_lt_of_cell? w _ hwx15)).trans hwx15), ((HB.out.cell (World.block_lt_of_cell? w _ hwx14)).trans hwx14), ((HB.out.cell (World.block_lt_of_cell? w _ hwx13)).trans hwx13), ((HB.out.cell (World.block_lt_of_cell? w _ hwx12)).trans hwx12), ((HB.out.cell (World.block_lt_of_cell? w _ hwx11)).trans hwx11), ((HB.out.cell (World.block_lt_of_cell? w _ hwx10)).trans hwx10)⟩ (fun hHeld => ?_); refine with_tabW laws_eqCallS.tab6 laws_eqCallS.bits6 (fun HT_ HW_ => ?_)
          generalize wr.drew = wx1 at HB HRx1 HRx2 hxx1 hxx2 hxx3 hxx4 hxx5 hxx6 hxx7 hxx8 hxx9 hxx10 hxx11 hxx12 hxx13 hxx14 hxx15 hxx16 hxx17 hxx18 hHeld ⊢
          refine pZ 0 17 (bm 10 1) HT_.out ?_
          refine pZ 1 18 (bm 10 3) HT_.out ?_
          refine pZ 2 19 (bm 10 7) HT_.out ?_
          refine pZ 4 21 (bm 10 23) HT_.out ?_
          refine pZ 5 22 (bm 10 55) HT_.out ?_
          refine pZ 6 23 (bm 10 119) HT_.out ?_
          refine tZ 3 20 (bm 10 127) HT_.out HW_.out hHeld ?_
          refine tZ 7 24 (bm 10 255) HT_.out HW_.out hHeld ?_
          by_cases c8 : t103 = true
          · subst c8
            rw [if_pos rfl] at H
            have H' := Aside0.mk H
            clear H
            refine oZ 8 (some 25) (bm 10 511) HT_.out (fun K hK => ?_)
            refine goesN Tryz.func112 #[.agg #[.int .i64 ((rd_T73 l0 x5_1).f0), .int .i64 ((rd_T73 l0 x5_1).f1.f0), .int .i64 ((rd_T73 l0 x5_1).f1.f1), .int .i64 ((rd_T73 l0 x5_1).f1.f2), .int .i64 ((rd_T73 l0 x5_1).f2), .int .i64 ((rd_T73 l0 x5_1).f3), .int .i64 ((rd_T73 l0 x5_1).f4), .int .i64 ((rd_T73 l0 x5_1).f5.f0), .slice Ax1 ((rd_T73 l0 x5_1).f5.f1).length cx1], .agg #[.int .i64 ((rd_T73 l1 x5_1).f0), .int .i64 ((rd_T73 l1 x5_1).f1.f0), .int .i64 ((rd_T73 l1 x5_1).f1.f1), .int .i64 ((rd_T73 l1 x5_1).f1.f2), .int .i64 ((rd_T73 l1 x5_1).f2), .int .i64 ((rd_T73 l1 x5_1).f3), .int .i64 ((rd_T73 l1 x5_1).f4), .int .i64 ((rd_T73 l1 x5_1).f5.f0), .slice Ax2 ((rd_T73 l1 x5_1).f5.f1).length cx2]] ?_
            with_reducible refine (laws_eqCall.calls k1 ((rd_T73 l0 x5_1).f0) ((rd_T73 l0 x5_1).f1.f0) ((rd_T73 l0 x5_1).f1.f1) ((rd_T73 l0 x5_1).f1.f2) ((rd_T73 l0 x5_1).f2) ((rd_T73 l0 x5_1).f3) ((rd_T73 l0 x5_1).f4) ((rd_T73 l0 x5_1).f5.f0) _ _ ((rd_T73 l0 x5_1).f5.f1) ((rd_T73 l1 x5_1).f0) ((rd_T73 l1 x5_1).f1.f0) ((rd_T73 l1 x5_1).f1.f1) ((rd_T73 l1 x5_1).f1.f2) ((rd_T73 l1 x5_1).f2) ((rd_T73 l1 x5_1).f3) ((rd_T73 l1 x5_1).f4) ((rd_T73 l1 x5_1).f5.f0) _ _ ((rd_T73 l1 x5_1).f5.f1) true _ ?side1 ?side2 ?side3 ?side4 A7.out).mono ?_
            (case side1 => repeat (first | exact (Kd.C_below HRx1.out HB.out) | (with_reducible refine Kd.C_alloc ?_ _) | (with_reducible refine Kd.C_drewN ?_ _) | (with_reducible refine Kd.C_drew ?_)))
            (case side2 => exact HCx1.out)
            (case side3 => repeat (first | exact (Kd.C_below HRx2.out HB.out) | (with_reducible refine Kd.C_alloc ?_ _) | (with_reducible refine Kd.C_drewN ?_ _) | (with_reducible refine Kd.C_drew ?_)))
            (case side4 => exact HCx2.out)
            rintro e wx2 ⟨rfl, hb⟩
            refine ⟨_, rfl, ?_⟩
            replace HB := Aside0.mk (below_step (hX HB.out) hb)
            (try clear hb)
            (try clear hb2)
            (try clear hk)
            (try clear hi)
            refine hK.out _ _ ⟨((HB.out.cell (World.block_lt_of_cell? w _ hwx9)).trans hwx9), ((HB.out.cell (World.block_lt_of_cell? w _ hwx8)).trans hwx8), ((HB.out.cell (World.block_lt_of_cell? w _ hwx7)).trans hwx7), ((HB.out.cell (World.block_lt_of_cell? w _ hwx6)).trans hwx6), ((HB.out.cell (World.block_lt_of_cell? w _ hwx5)).trans hwx5), ((HB.out.cell (World.block_lt_of_cell? w _ hwx4)).trans hwx4), ((HB.out.cell (World.block_lt_of_cell? w _ hwx3)).trans hwx3), ((HB.out.cell (World.block_lt_of_cell? w _ hwx2)).trans hwx2), ((HB.out.cell (World.block_lt_of_cell? w _ hwx1)).trans hwx1), ((HB.out.cell (World.block_lt_of_cell? w _ hwx18)).trans hwx18), ((HB.out.cell (World.block_lt_of_cell? w _ hwx17)).trans hwx17), ((HB.out.cell (World.block_lt_of_cell? w _ hwx16)).trans hwx16), ((HB.out.cell (World.block_lt_of_cell? w _ hwx15)).trans hwx15), ((HB.out.cell (World.block_lt_of_cell? w _ hwx14)).trans hwx14), ((HB.out.cell (World.block_lt_of_cell? w _ hwx13)).trans hwx13), ((HB.out.cell (World.block_lt_of_cell? w _ hwx12)).trans hwx12), ((HB.out.cell (World.block_lt_of_cell? w _ hwx11)).trans hwx11), ((HB.out.cell (World.block_lt_of_cell? w _ hwx10)).trans hwx10)⟩ (fun hHeld => ?_)
            clear hK K
            refine nZ 25 ?_
            refine pZ 9 26 (bm 10 1023) HT_.out ?_
            refine done_ (done_of HT_.out (by kernel_rfl)) ?_
            try go_wp2
            go_roundg k1
            case measure => have := HKy1.out; omega
            case rel => exact ⟨(wrap64 (x5_1 + 1)), rS, H', ⟨by have := HKy1.out; omega⟩, ⟨(hX HB.out)⟩⟩
          · replace c8 := Bool.eq_false_iff.mpr c8
            subst c8
            rw [if_neg nft] at H
            obtain rfl := Option.some.inj H
            refine oZ 8 (some 25) (bm 10 511) HT_.out (fun K hK => ?_)
            refine goesN Tryz.func112 #[.agg #[.int .i64 ((rd_T73 l0 x5_1).f0), .int .i64 ((rd_T73 l0 x5_1).f1.f0), .int .i64 ((rd_T73 l0 x5_1).f1.f1), .int .i64 ((rd_T73 l0 x5_1).f1.f2), .int .i64 ((rd_T73 l0 x5_1).f2), .int .i64 ((rd_T73 l0 x5_1).f3), .int .i64 ((rd_T73 l0 x5_1).f4), .int .i64 ((rd_T73 l0 x5_1).f5.f0), .slice Ax1 ((rd_T73 l0 x5_1).f5.f1).length cx1], .agg #[.int .i64 ((rd_T73 l1 x5_1).f0), .int .i64 ((rd_T73 l1 x5_1).f1.f0), .int .i64 ((rd_T73 l1 x5_1).f1.f1), .int .i64 ((rd_T73 l1 x5_1).f1.f2), .int .i64 ((rd_T73 l1 x5_1).f2), .int .i64 ((rd_T73 l1 x5_1).f3), .int .i64 ((rd_T73 l1 x5_1).f4), .int .i64 ((rd_T73 l1 x5_1).f5.f0), .slice Ax2 ((rd_T73 l1 x5_1).f5.f1).length cx2]] ?_
            with_reducible refine (laws_eqCall.calls k1 ((rd_T73 l0 x5_1).f0) ((rd_T73 l0 x5_1).f1.f0) ((rd_T73 l0 x5_1).f1.f1) ((rd_T73 l0 x5_1).f1.f2) ((rd_T73 l0 x5_1).f2) ((rd_T73 l0 x5_1).f3) ((rd_T73 l0 x5_1).f4) ((rd_T73 l0 x5_1).f5.f0) _ _ ((rd_T73 l0 x5_1).f5.f1) ((rd_T73 l1 x5_1).f0) ((rd_T73 l1 x5_1).f1.f0) ((rd_T73 l1 x5_1).f1.f1) ((rd_T73 l1 x5_1).f1.f2) ((rd_T73 l1 x5_1).f2) ((rd_T73 l1 x5_1).f3) ((rd_T73 l1 x5_1).f4) ((rd_T73 l1 x5_1).f5.f0) _ _ ((rd_T73 l1 x5_1).f5.f1) false _ ?side1 ?side2 ?side3 ?side4 A7.out).mono ?_
            (case side1 => repeat (first | exact (Kd.C_below HRx1.out HB.out) | (with_reducible refine Kd.C_alloc ?_ _) | (with_reducible refine Kd.C_drewN ?_ _) | (with_reducible refine Kd.C_drew ?_)))
            (case side2 => exact HCx1.out)
            (case side3 => repeat (first | exact (Kd.C_below HRx2.out HB.out) | (with_reducible refine Kd.C_alloc ?_ _) | (with_reducible refine Kd.C_drewN ?_ _) | (with_reducible refine Kd.C_drew ?_)))
            (case side4 => exact HCx2.out)
            rintro e wx2 ⟨rfl, hb⟩
            refine ⟨_, rfl, ?_⟩
            replace HB := Aside0.mk (below_step (hX HB.out) hb)
            (try clear hb)
            (try clear hb2)
            (try clear hk)
            (try clear hi)
            refine hK.out _ _ ⟨((HB.out.cell (World.block_lt_of_cell? w _ hwx9)).trans hwx9), ((HB.out.cell (World.block_lt_of_cell? w _ hwx8)).trans hwx8), ((HB.out.cell (World.block_lt_of_cell? w _ hwx7)).trans hwx7), ((HB.out.cell (World.block_lt_of_cell? w _ hwx6)).trans hwx6), ((HB.out.cell (World.block_lt_of_cell? w _ hwx5)).trans hwx5), ((HB.out.cell (World.block_lt_of_cell? w _ hwx4)).trans hwx4), ((HB.out.cell (World.block_lt_of_cell? w _ hwx3)).trans hwx3), ((HB.out.cell (World.block_lt_of_cell? w _ hwx2)).trans hwx2), ((HB.out.cell (World.block_lt_of_cell? w _ hwx1)).trans hwx1), ((HB.out.cell (World.block_lt_of_cell? w _ hwx18)).trans hwx18), ((HB.out.cell (World.block_lt_of_cell? w _ hwx17)).trans hwx17), ((HB.out.cell (World.block_lt_of_cell? w _ hwx16)).trans hwx16), ((HB.out.cell (World.block_lt_of_cell? w _ hwx15)).trans hwx15), ((HB.out.cell (World.block_lt_of_cell? w _ hwx14)).trans hwx14), ((HB.out.cell (World.block_lt_of_cell? w _ hwx13)).trans hwx13), ((HB.out.cell (World.block_lt_of_cell? w _ hwx12)).trans hwx12), ((HB.out.cell (World.block_lt_of_cell? w _ hwx11)).trans hwx11), ((HB.out.cell (World.block_lt_of_cell? w _ hwx10)).trans hwx10)⟩ (fun hHeld => ?_)
            clear hK K
            refine nZ 25 ?_
            refine pZ 9 26 (bm 10 1023) HT_.out ?_
            refine done_ (done_of HT_.out (by kernel_rfl)) ?_
            try go_wp2
            go_ret
            exact ⟨rE, (hX HB.out)⟩
        · rw [if_neg c4] at H
          have c4b0 := decide_eq_false c4
          clear c4
          obtain rfl := Option.some.inj H
          go_wp2
          go_ret
          exact ⟨rE, (hX HB.out)⟩
  · rw [if_neg c3] at H
    obtain ⟨c3b0, c3b1⟩ := eqF c3
    have c3b2 : (l0.length == l1.length) = false := by first | simpa using c3 | (simp at c3 ⊢; omega)
    obtain rfl := Option.some.inj H
    go_wp2
    go_ret
    exact ⟨rE, (hX HB.out)⟩
end Go.Proofs.YtmljebgideecjaaGreat.P
namespace Go.Proofs.YtmljebgideecjaaGreat.P
open Go.Proofs.YtmljebgideecjaaGreatZ Go.RowKit Go.Proofs.YtmljebgideecjaaGreatW.PrintWords Go.Proofs.YtmljebgideecjaaGreatW.PrintLast Go.Proofs.YtmljebgideecjaaGreatW.PrintMore
attribute [local go_sem] max2_int min2_int max_two min_two max_three min_three max_four min_four   -- for this text's walks alone
set_option linter.unusedVariables false
set_option linter.unusedSimpArgs false
def laws_eqMachine.f (k : Nat) (l0_0 : List (S140)) (l0_1 : List (S162)) (l0_2 : List (S97)) (a0_3 : Int) (l0_4 : List (S73)) (l0_5 : List Int) (l0_6 : List Int) (a0_7 : Int) (l1_0 : List (S140)) (l1_1 : List (S162)) (l1_2 : List (S97)) (a1_3 : Int) (l1_4 : List (S73)) (l1_5 : List Int) (l1_6 : List Int) (a1_7 : Int) : Option (Bool) := (laws_eqMem.f k l0_0 l0_1 l1_0 l1_1).bind fun t103 => (if t103 = true then ((laws_eqThreadS.f k l0_2 l1_2).bind fun t104 => (if t104 = true then (if a0_3 = a1_3 then ((laws_eqCallS.f k l0_4 l1_4).bind fun t105 => (if t105 = true then ((laws_eqIntS.f k l0_5 l1_5).bind fun t106 => (if t106 = true then ((laws_eqRows.f k l0_6 a0_7 l1_6 a1_7).bind fun t107 => (if t107 = true then (some true) else (some false))) else (some false))) else (some false))) else (some false)) else (some false))) else (some false))
set_option maxHeartbeats 8000000 in
set_option maxRecDepth 100000 in
theorem laws_eqMachine.calls (k : Nat) (A0_0 : Option Addr) (c0_0 : Nat) (l0_0 : List (S140)) (A0_1 : Option Addr) (c0_1 : Nat) (l0_1 : List (S162)) (A0_2 : Option Addr) (c0_2 : Nat) (l0_2 : List (S97)) (a0_3 : Int) (A0_4 : Option Addr) (c0_4 : Nat) (l0_4 : List (S73)) (A0_5 : Option Addr) (c0_5 : Nat) (l0_5 : List Int) (A0_6 : Option Addr) (c0_6 : Nat) (l0_6 : List Int) (a0_7 : Int) (A1_0 : Option Addr) (c1_0 : Nat) (l1_0 : List (S140)) (A1_1 : Option Addr) (c1_1 : Nat) (l1_1 : List (S162)) (A1_2 : Option Addr) (c1_2 : Nat) (l1_2 : List (S97)) (a1_3 : Int) (A1_4 : Option Addr) (c1_4 : Nat) (l1_4 : List (S73)) (A1_5 : Option Addr) (c1_5 : Nat) (l1_5 : List Int) (A1_6 : Option Addr) (c1_6 : Nat) (l1_6 : List Int) (a1_7 : Int) (r : Bool) (w : World) (hr0_0 : Kd.C k140 w A0_0 l0_0.length l0_0) (hc0_0 : l0_0.length ≤ c0_0) (hr0_1 : Kd.C k162 w A0_1 l0_1.length l0_1) (hc0_1 : l0_1.length ≤ c0_1) (hr0_2 : Kd.C k97 w A0_2 l0_2.length l0_2) (hc0_2 : l0_2.length ≤ c0_2) (hr0_4 : Kd.C k73 w A0_4 l0_4.length l0_4) (hc0_4 : l0_4.length ≤ c0_4) (hr0_5 : Kd.C (Kd.int .i64) w A0_5 l0_5.length l0_5) (hc0_5 : l0_5.length ≤ c0_5) (hr0_6 : Kd.C (Kd.int .i64) w A0_6 l0_6.length l0_6) (hc0_6 : l0_6.length ≤ c0_6) (hr1_0 : Kd.C k140 w A1_0 l1_0.length l1_0) (hc1_0 : l1_0.length ≤ c1_0) (hr1_1 : Kd.C k162 w A1_1 l1_1.length l1_1) (hc1_1 : l1_1.length ≤ c1_1) (hr1_2 : Kd.C k97 w A1_2 l1_2.length l1_2) (hc1_2 : l1_2.length ≤ c1_2) (hr1_4 : Kd.C k73 w A1_4 l1_4.length l1_4) (hc1_4 : l1_4.length ≤ c1_4) (hr1_5 : Kd.C (Kd.int .i64) w A1_5 l1_5.length l1_5) (hc1_5 : l1_5.length ≤ c1_5) (hr1_6 : Kd.C (Kd.int .i64) w A1_6 l1_6.length l1_6) (hc1_6 : l1_6.length ≤ c1_6) (h : laws_eqMachine.f k l0_0 l0_1 l0_2 a0_3 l0_4 l0_5 l0_6 a0_7 l1_0 l1_1 l1_2 a1_3 l1_4 l1_5 l1_6 a1_7 = some r) :
    Calls Tryz.prog 14 #[.agg #[.slice A0_0 l0_0.length c0_0, .slice A0_1 l0_1.length c0_1, .slice A0_2 l0_2.length c0_2, .int .i64 a0_3, .slice A0_4 l0_4.length c0_4, .slice A0_5 l0_5.length c0_5, .slice A0_6 l0_6.length c0_6, .int .i64 a0_7], .agg #[.slice A1_0 l1_0.length c1_0, .slice A1_1 l1_1.length c1_1, .slice A1_2 l1_2.length c1_2, .int .i64 a1_3, .slice A1_4 l1_4.length c1_4, .slice A1_5 l1_5.length c1_5, .slice A1_6 l1_6.length c1_6, .int .i64 a1_7]] w fun e w' => e = .returned (.bool r) ∧ Below w.heap.size w w' := by
  have hu43 := Tryz.underlying43
  have hu38 := Tryz.underlying38
  have hu41 := Tryz.underlying41
  have HR0_0 := Aside0.mk hr0_0
  have HC0_0 := Aside0.mk hc0_0
  clear hr0_0 hc0_0
  have HR0_1 := Aside0.mk hr0_1
  have HC0_1 := Aside0.mk hc0_1
  clear hr0_1 hc0_1
  have HR0_2 := Aside0.mk hr0_2
  have HC0_2 := Aside0.mk hc0_2
  clear hr0_2 hc0_2
  have HR0_4 := Aside0.mk hr0_4
  have HC0_4 := Aside0.mk hc0_4
  clear hr0_4 hc0_4
  have HR0_5 := Aside0.mk hr0_5
  have HC0_5 := Aside0.mk hc0_5
  clear hr0_5 hc0_5
  have HR0_6 := Aside0.mk hr0_6
  have HC0_6 := Aside0.mk hc0_6
  clear hr0_6 hc0_6
  have HR1_0 := Aside0.mk hr1_0
  have HC1_0 := Aside0.mk hc1_0
  clear hr1_0 hc1_0
  have HR1_1 := Aside0.mk hr1_1
  have HC1_1 := Aside0.mk hc1_1
  clear hr1_1 hc1_1
  have HR1_2 := Aside0.mk hr1_2
  have HC1_2 := Aside0.mk hc1_2
  clear hr1_2 hc1_2
  have HR1_4 := Aside0.mk hr1_4
  have HC1_4 := Aside0.mk hc1_4
  clear hr1_4 hc1_4
  have HR1_5 := Aside0.mk hr1_5
  have HC1_5 := Aside0.mk hc1_5
  clear hr1_5 hc1_5
  have HR1_6 := Aside0.mk hr1_6
  have HC1_6 := Aside0.mk hc1_6
  clear hr1_6 hc1_6
  have HB := Aside0.mk (Below.refl w.heap.size w)
  have H := h
  unfold laws_eqMachine.f at H
  clear h
  replace H := bE H; obtain ⟨t103, A3, H⟩ := H
  go_enter Tryz.func14, Tryz.ntmps14
  go_wp2_with (first | (refine boxE 2 #[.slice A0_0 l0_0.length c0_0, .slice A0_1 l0_1.length c0_1, .slice A0_2 l0_2.length c0_2, .int .i64 a0_3, .slice A0_4 l0_4.length c0_4, .slice A0_5 l0_5.length c0_5, .slice A0_6 l0_6.length c0_6, .int .i64 a0_7] 43 ?_; intro gbz1 hg wz1 hbox hb; have BKz1 := Aside0.mk (hbox); have GWz1 := Aside0.mk (gX' hg (hX HB.out)); have GEz1 := Aside0.mk (gX' hg (hX HB.out)); replace HB := Aside0.mk (below_step (hX HB.out) hb); clear hb hbox hg) | (refine boxE 3 #[.slice A1_0 l1_0.length c1_0, .slice A1_1 l1_1.length c1_1, .slice A1_2 l1_2.length c1_2, .int .i64 a1_3, .slice A1_4 l1_4.length c1_4, .slice A1_5 l1_5.length c1_5, .slice A1_6 l1_6.length c1_6, .int .i64 a1_7] 43 ?_; intro gbz2 hg wz2 hbox hb; have BKz2 := Aside0.mk (hbox); have GWz2 := Aside0.mk (gX' hg (hX HB.out)); have GEz2 := Aside0.mk (gX' hg (hX HB.out)); have NBz1 := Aside0.mk (gL hg (bX BKz1.out)); have NBz2 := Aside0.mk (gG hg (bX BKz1.out)); replace BKz1 := Aside0.mk (blk_below (bX BKz1.out) hb); replace HB := Aside0.mk (below_step (hX HB.out) hb); clear hb hbox hg; have hnbz1 := NBz1.out; have hncz1 := NBz2.out; obtain ⟨hczz1, hczz2, hczz3, hczz4, hczz5, hczz6, hczz7, hczz8, hfzz1, hfzz2, hfzz3, hfzz4, hfzz5, hfzz6, hfzz7, hfzz8⟩ := cZ8 BKz1.out; obtain ⟨hczz9, hczz10, hczz11, hczz12, hczz13, hczz14, hczz15, hczz16, hfzz9, hfzz10, hfzz11, hfzz12, hfzz13, hfzz14, hfzz15, hfzz16⟩ := cZ8 BKz2.out; refine Stop.out ?_))
  refine ⟨?_⟩
  by_cases c4 : t103 = true
  · subst c4
    rw [if_pos rfl] at H
    replace H := bE H; obtain ⟨t104, A5, H⟩ := H
    go_wp2_with (first | (refine goesM 50 9 Tryz.func50 #[.agg #[.slice A0_0 l0_0.length c0_0, .slice A0_1 l0_1.length c0_1], .agg #[.slice A1_0 l1_0.length c1_0, .slice A1_1 l1_1.length c1_1]] ?_; refine (laws_eqMem.calls k _ _ l0_0 _ _ l0_1 _ _ l1_0 _ _ l1_1 true _ (cC HR0_0.out HB.out) HC0_0.out (cC HR0_1.out HB.out) HC0_1.out (cC HR1_0.out HB.out) HC1_0.out (cC HR1_1.out HB.out) HC1_1.out A3.out).mono ?_; rintro e wz3 ⟨rfl, hb⟩; refine ⟨_, rfl, ?_⟩; replace BKz1 := Aside0.mk (blk_below (bX BKz1.out) hb); replace BKz2 := Aside0.mk (blk_below (bX BKz2.out) hb); replace HB := Aside0.mk (below_step (hX HB.out) hb); clear hb; obtain ⟨hczz17, hczz18, hczz19, hczz20, hczz21, hczz22, hczz23, hczz24, hfzz17, hfzz18, hfzz19, hfzz20, hfzz21, hfzz22, hfzz23, hfzz24⟩ := cZ8 BKz1.out; obtain ⟨hczz25, hczz26, hczz27, hczz28, hczz29, hczz30, hczz31, hczz32, hfzz25, hfzz26, hfzz27, hfzz28, hfzz29, hfzz30, hfzz31, hfzz32⟩ := cZ8 BKz2.out; refine Stop.out ?_))
    refine ⟨?_⟩
    by_cases c6 : t104 = true
    · subst c6
      rw [if_pos rfl] at H
      go_wp2_with (first | (refine goesM 51 15 Tryz.func51 #[.slice A0_2 l0_2.length c0_2, .slice A1_2 l1_2.length c1_2] ?_; refine (laws_eqThreadS.calls k _ _ l0_2 _ _ l1_2 true _ (cC HR0_2.out HB.out) HC0_2.out (cC HR1_2.out HB.out) HC1_2.out A5.out).mono ?_; rintro e wz4 ⟨rfl, hb⟩; refine ⟨_, rfl, ?_⟩; replace BKz1 := Aside0.mk (blk_below (bX BKz1.out) hb); replace BKz2 := Aside0.mk (blk_below (bX BKz2.out) hb); replace HB := Aside0.mk (below_step (hX HB.out) hb); clear hb; obtain ⟨hczz33, hczz34, hczz35, hczz36, hczz37, hczz38, hczz39, hczz40, hfzz33, hfzz34, hfzz35, hfzz36, hfzz37, hfzz38, hfzz39, hfzz40⟩ := cZ8 BKz1.out; obtain ⟨hczz41, hczz42, hczz43, hczz44, hczz45, hczz46, hczz47, hczz48, hfzz41, hfzz42, hfzz43, hfzz44, hfzz45, hfzz46, hfzz47, hfzz48⟩ := cZ8 BKz2.out; refine Stop.out ?_))
      refine ⟨?_⟩
      by_cases c7 : a0_3 = a1_3
      · rw [if_pos c7] at H
        obtain ⟨c7b0, c7b1⟩ := eqT c7
        clear c7
        replace H := bE H; obtain ⟨t105, A8, H⟩ := H
        by_cases c9 : t105 = true
        · subst c9
          rw [if_pos rfl] at H
          replace H := bE H; obtain ⟨t106, A10, H⟩ := H
          go_wp2_with (first | (refine goesM 52 26 Tryz.func52 #[.slice A0_4 l0_4.length c0_4, .slice A1_4 l1_4.length c1_4] ?_; refine (laws_eqCallS.calls k _ _ l0_4 _ _ l1_4 true _ (cC HR0_4.out HB.out) HC0_4.out (cC HR1_4.out HB.out) HC1_4.out A8.out).mono ?_; rintro e wz5 ⟨rfl, hb⟩; refine ⟨_, rfl, ?_⟩; replace BKz1 := Aside0.mk (blk_below (bX BKz1.out) hb); replace BKz2 := Aside0.mk (blk_below (bX BKz2.out) hb); replace HB := Aside0.mk (below_step (hX HB.out) hb); clear hb; obtain ⟨hczz49, hczz50, hczz51, hczz52, hczz53, hczz54, hczz55, hczz56, hfzz49, hfzz50, hfzz51, hfzz52, hfzz53, hfzz54, hfzz55, hfzz56⟩ := cZ8 BKz1.out; obtain ⟨hczz57, hczz58, hczz59, hczz60, hczz61, hczz62, hczz63, hczz64, hfzz57, hfzz58, hfzz59, hfzz60, hfzz61, hfzz62, hfzz63, hfzz64⟩ := cZ8 BKz2.out; refine Stop.out ?_))
          refine ⟨?_⟩
          by_cases c11 : t106 = true
          · subst c11
            rw [if_pos rfl] at H
            replace H := bE H; obtain ⟨t107, A12, H⟩ := H
            go_wp2_with (first | (refine goesM 53 32 Tryz.func53 #[.slice A0_5 l0_5.length c0_5, .slice A1_5 l1_5.length c1_5] ?_; refine (laws_eqIntS.calls k _ _ l0_5 _ _ l1_5 true _ (cC HR0_5.out HB.out) HC0_5.out (cC HR1_5.out HB.out) HC1_5.out A10.out).mono ?_; rintro e w' ⟨rfl, ⟨nd, rfl⟩⟩; refine ⟨_, rfl, ?_⟩; refine Stop.out ?_))
            refine ⟨?_⟩
            by_cases c13 : t107 = true
            · subst c13
              rw [if_pos rfl] at H
              obtain rfl := Option.some.inj H
              go_wp2_with (first | (refine goesM 23 38 Tryz.func23 #[.agg #[.slice A0_6 l0_6.length c0_6, .int .i64 a0_7], .agg #[.slice A1_6 l1_6.length c1_6, .int .i64 a1_7]] ?_; refine (laws_eqRows.calls k _ _ l0_6 a0_7 _ _ l1_6 a1_7 true _ (cC HR0_6.out HB.out) HC0_6.out (cC HR1_6.out HB.out) HC1_6.out A12.out).mono ?_; rintro e wz6 ⟨rfl, hb⟩; refine ⟨_, rfl, ?_⟩; replace BKz1 := Aside0.mk (blk_below (bX BKz1.out) hb); replace BKz2 := Aside0.mk (blk_below (bX BKz2.out) hb); replace HB := Aside0.mk (below_step (hX HB.out) hb); clear hb))
              go_ret
              exact ⟨rE, (hX HB.out)⟩
            · replace c13 := Bool.eq_false_iff.mpr c13
              subst c13
              rw [if_neg nft] at H
              obtain rfl := Option.some.inj H
              go_wp2_with (first | (refine goesM 23 38 Tryz.func23 #[.agg #[.slice A0_6 l0_6.length c0_6, .int .i64 a0_7], .agg #[.slice A1_6 l1_6.length c1_6, .int .i64 a1_7]] ?_; refine (laws_eqRows.calls k _ _ l0_6 a0_7 _ _ l1_6 a1_7 false _ (cC HR0_6.out HB.out) HC0_6.out (cC HR1_6.out HB.out) HC1_6.out A12.out).mono ?_; rintro e wz6 ⟨rfl, hb⟩; refine ⟨_, rfl, ?_⟩; replace BKz1 := Aside0.mk (blk_below (bX BKz1.out) hb); replace BKz2 := Aside0.mk (blk_below (bX BKz2.out) hb); replace HB := Aside0.mk (below_step (hX HB.out) hb); clear hb))
              go_ret
              exact ⟨rE, (hX HB.out)⟩
          · replace c11 := Bool.eq_false_iff.mpr c11
            subst c11
            rw [if_neg nft] at H
            obtain rfl := Option.some.inj H
            go_wp2_with (first | (refine goesM 53 32 Tryz.func53 #[.slice A0_5 l0_5.length c0_5, .slice A1_5 l1_5.length c1_5] ?_; refine (laws_eqIntS.calls k _ _ l0_5 _ _ l1_5 false _ (cC HR0_5.out HB.out) HC0_5.out (cC HR1_5.out HB.out) HC1_5.out A10.out).mono ?_; rintro e w' ⟨rfl, ⟨nd, rfl⟩⟩; refine ⟨_, rfl, ?_⟩))
            go_ret
            exact ⟨rE, (hX HB.out)⟩
        · replace c9 := Bool.eq_false_iff.mpr c9
          subst c9
          rw [if_neg nft] at H
          obtain rfl := Option.some.inj H
          go_wp2_with (first | (refine goesM 52 26 Tryz.func52 #[.slice A0_4 l0_4.length c0_4, .slice A1_4 l1_4.length c1_4] ?_; refine (laws_eqCallS.calls k _ _ l0_4 _ _ l1_4 false _ (cC HR0_4.out HB.out) HC0_4.out (cC HR1_4.out HB.out) HC1_4.out A8.out).mono ?_; rintro e wz5 ⟨rfl, hb⟩; refine ⟨_, rfl, ?_⟩; replace BKz1 := Aside0.mk (blk_below (bX BKz1.out) hb); replace BKz2 := Aside0.mk (blk_below (bX BKz2.out) hb); replace HB := Aside0.mk (below_step (hX HB.out) hb); clear hb))
          go_ret
          exact ⟨rE, (hX HB.out)⟩
      · rw [if_neg c7] at H
        obtain ⟨c7b0, c7b1⟩ := eqF c7
        obtain rfl := Option.some.inj H
        go_wp2
        go_ret
        exact ⟨rE, (hX HB.out)⟩
    · replace c6 := Bool.eq_false_iff.mpr c6
      subst c6
      rw [if_neg nft] at H
      obtain rfl := Option.some.inj H
      go_wp2_with (first | (refine goesM 51 15 Tryz.func51 #[.slice A0_2 l0_2.length c0_2, .slice A1_2 l1_2.length c1_2] ?_; refine (laws_eqThreadS.calls k _ _ l0_2 _ _ l1_2 false _ (cC HR0_2.out HB.out) HC0_2.out (cC HR1_2.out HB.out) HC1_2.out A5.out).mono ?_; rintro e wz4 ⟨rfl, hb⟩; refine ⟨_, rfl, ?_⟩; replace BKz1 := Aside0.mk (blk_below (bX BKz1.out) hb); replace BKz2 := Aside0.mk (blk_below (bX BKz2.out) hb); replace HB := Aside0.mk (below_step (hX HB.out) hb); clear hb))
      go_ret
      exact ⟨rE, (hX HB.out)⟩
  · replace c4 := Bool.eq_false_iff.mpr c4
    subst c4
    rw [if_neg nft] at H
    obtain rfl := Option.some.inj H
    go_wp2_with (first | (refine goesM 50 9 Tryz.func50 #[.agg #[.slice A0_0 l0_0.length c0_0, .slice A0_1 l0_1.length c0_1], .agg #[.slice A1_0 l1_0.length c1_0, .slice A1_1 l1_1.length c1_1]] ?_; refine (laws_eqMem.calls k _ _ l0_0 _ _ l0_1 _ _ l1_0 _ _ l1_1 false _ (cC HR0_0.out HB.out) HC0_0.out (cC HR0_1.out HB.out) HC0_1.out (cC HR1_0.out HB.out) HC1_0.out (cC HR1_1.out HB.out) HC1_1.out A3.out).mono ?_; rintro e wz3 ⟨rfl, hb⟩; refine ⟨_, rfl, ?_⟩; replace BKz1 := Aside0.mk (blk_below (bX BKz1.out) hb); replace BKz2 := Aside0.mk (blk_below (bX BKz2.out) hb); replace HB := Aside0.mk (below_step (hX HB.out) hb); clear hb))
    go_ret
    exact ⟨rE, (hX HB.out)⟩
end Go.Proofs.YtmljebgideecjaaGreat.P
namespace Go.Proofs.YtmljebgideecjaaGreat.P
open Go.Proofs.YtmljebgideecjaaGreatZ Go.RowKit Go.Proofs.YtmljebgideecjaaGreatW.PrintWords Go.Proofs.YtmljebgideecjaaGreatW.PrintLast Go.Proofs.YtmljebgideecjaaGreatW.PrintMore
attribute [local go_sem] max2_int min2_int max_two min_two max_three min_three max_four min_four   -- for this text's walks alone
set_option linter.unusedVariables false
set_option linter.unusedSimpArgs false
def spec_Digits.l0 : Nat → Int → Bool → ByteArray → Option (ByteArray)
  | 0, _, _, _ => none
  | k + 1, x0, x3, x4 => if x0 = 0 then (if x3 = true then (if 1 + x4.size ≤ 9223372036854775807 then (some ((⟨#[45]⟩ : ByteArray) ++ x4)) else (none)) else (some x4)) else (if (Int.tmod x0 10) < 0 then ((some (([(wrap64 (48 + (wrap64 (-(Int.tmod x0 10))))) % 256] : List Int) : List Int)).bind fun y101 => (if (strOfNums y101).size + x4.size ≤ 9223372036854775807 then (spec_Digits.l0 k (wrap64 (Int.tdiv x0 10)) x3 ((strOfNums y101) ++ x4)) else (none))) else ((some (([(wrap64 (48 + (Int.tmod x0 10))) % 256] : List Int) : List Int)).bind fun y104 => (if (strOfNums y104).size + x4.size ≤ 9223372036854775807 then (spec_Digits.l0 k (wrap64 (Int.tdiv x0 10)) x3 ((strOfNums y104) ++ x4)) else (none))))
def spec_Digits.f (k : Nat) (a0 : Int) : Option (ByteArray) := if a0 = 0 then (some (⟨#[48]⟩ : ByteArray)) else (spec_Digits.l0 k a0 (decide (a0 < 0)) (⟨#[]⟩ : ByteArray))
set_option maxHeartbeats 8000000 in
set_option maxRecDepth 100000 in
theorem spec_Digits.calls (k : Nat) (a0 : Int) (r : ByteArray) (w : World) (h : spec_Digits.f k a0 = some r) :
    Calls Tryz.prog 114 #[.int .i64 a0] w fun e w' => e = .returned (.string r) ∧ Below w.heap.size w w' := by
  have HB := Aside0.mk (Below.refl w.heap.size w)
  have H := h
  unfold spec_Digits.f at H
  clear h
  go_enter Tryz.func114, Tryz.ntmps114
  by_cases c2 : a0 = 0
  · rw [if_pos c2] at H
    obtain ⟨c2b0, c2b1⟩ := eqT c2
    clear c2
    obtain rfl := Option.some.inj H
    go_wp2
    go_ret
    exact ⟨rE, (hX HB.out)⟩
  · rw [if_neg c2] at H
    obtain ⟨c2b0, c2b1⟩ := eqF c2
    have H' := Aside0.mk H
    clear H
    go_wp2
    go_loopg [0, 4] k (fun kq v0 v4 w' => ∃ (x0_1 : Int) (x4_1 : ByteArray), v0 = .int .i64 x0_1 ∧ v4 = .string x4_1 ∧ Aside0 (spec_Digits.l0 kq x0_1 (decide (a0 < 0)) x4_1 = some r) ∧ Aside0 (kq ≤ k) ∧ Aside0 (Below w.heap.size w w'))
    case atStart => exact ⟨(a0), ((⟨#[]⟩ : ByteArray)), rS, rS, H', ⟨Nat.le_refl _⟩, ⟨(hX HB.out)⟩⟩
    case round =>
      clear H'
      try clear c1
      try clear c2
      try clear c2b0
      try clear c2b1
      try clear p2
      obtain ⟨x0_1, x4_1, rfl, rfl, HA, HKy1, HB⟩ := hrel
      cases gk with
      | zero => exact absurd HA.out (by simp [spec_Digits.l0])
      | succ k1 =>
        have H := HA.out
        clear HA
        simp only [spec_Digits.l0] at H
        by_cases c3 : x0_1 = 0
        · rw [if_pos c3] at H
          obtain ⟨c3b0, c3b1⟩ := eqT c3
          clear c3
          by_cases c4 : (decide (a0 < 0)) = true
          · rw [if_pos c4] at H
            have c4b0 : (decide (a0 < 0)) = true := c4
            (try (have c4b1 : (a0 < 0) := by simpa using c4))
            clear c4
            replace H := ifP H; obtain ⟨c5, H⟩ := H
            have c5b0 := eq_true c5
            have c5b1 := decide_eq_true c5
            try have c5b2 : (9223372036854775807 < 1 + x4_1.size) = False := eq_false (Nat.not_lt.2 c5)
            obtain rfl := Option.some.inj H
            go_wp2
            go_ret
            exact ⟨rE, (hX HB.out)⟩
          · rw [if_neg c4] at H
            have c4b0 : (decide (a0 < 0)) = false := by simpa using c4
            (try (have c4b1 : ¬ (a0 < 0) := by simpa using c4))
            clear c4
            obtain rfl := Option.some.inj H
            go_wp2
            go_ret
            exact ⟨rE, (hX HB.out)⟩
        · rw [if_neg c3] at H
          obtain ⟨c3b0, c3b1⟩ := eqF c3
          by_cases c6 : (Int.tmod x0_1 10) < 0
          · rw [if_pos c6] at H
            have c6b0 := decide_eq_true c6
            clear c6
            obtain ⟨y101, hy101⟩ : ∃ y_ : List Int, y_ = (([(wrap64 (48 + (wrap64 (-(Int.tmod x0_1 10))))) % 256] : List Int)) := ⟨_, rfl⟩
            replace H : (if (strOfNums y101).size + x4_1.size ≤ 9223372036854775807 then (spec_Digits.l0 k1 (wrap64 (Int.tdiv x0_1 10)) (decide (a0 < 0)) ((strOfNums y101) ++ x4_1)) else (none)) = some r := yH H hy101
            have Ny101 := Aside0.mk hy101
            clear hy101
            replace H := ifP H; obtain ⟨c7, H⟩ := H
            have c7b0 := eq_true c7
            have c7b1 := decide_eq_true c7
            try have c7b2 : (9223372036854775807 < (strOfNums y101).size + x4_1.size) = False := eq_false (Nat.not_lt.2 c7)
            have H' := Aside0.mk H
            clear H
            go_wp2_with (first | ((with_reducible refine gate_dst (N := 21) rfl ?_); refine Kd.R_lit (Kd.int .u8) _ 5 ?hg (N := 21) ?hd (xs := ([(wrap64 (48 + (wrap64 (-(Int.tmod x0_1 10))))) % 256] : List Int)) (inner := [.int .u8 ((wrap64 (48 + (wrap64 (-(Int.tmod x0_1 10))))) % 256)]) (ok := fun _ => True) (okp := fun _ => True) ?hr ?hp (fun _ hk => hk) trivial (Below.refl _ _) (Nat.le_refl _) (by simp) ?_; (case hd => rfl); (case hg => rfl); (case hr => first | (go_simp; done) | (go_simp; rfl)); (case hp => exact (Reps.one (show Kd.M (Kd.int .u8) _ _ _ ((wrap64 (48 + (wrap64 (-(Int.tmod x0_1 10))))) % 256) [.int .u8 ((wrap64 (48 + (wrap64 (-(Int.tmod x0_1 10))))) % 256)] from rfl) (Reps.none _ _))); intro vx1 wx1 hox1 hb hg_ hnew_; clear hg_ hnew_; (first | rw [← Ny101.out] at hox1 | (simp only [Int.reduceToNat] at hox1; rw [← Ny101.out] at hox1)); have HOx1 := Aside0.mk (Kd.R_lower hox1 (below_size (hX HB.out))); replace HB := Aside0.mk (below_step (hX HB.out) hb); clear hb hox1; have hcvx1 := own_string (P := Tryz.prog) Tryz.underlying193 Tryz.underlying5 Tryz.underlying9 (Kd.own_of_R HOx1.out)))
            go_roundg k1
            case measure => have := HKy1.out; omega
            case rel => exact ⟨(wrap64 (Int.tdiv x0_1 10)), ((strOfNums y101) ++ x4_1), rS, rS, H', ⟨by have := HKy1.out; omega⟩, ⟨(hX HB.out)⟩⟩
          · rw [if_neg c6] at H
            have c6b0 := decide_eq_false c6
            clear c6
            obtain ⟨y104, hy104⟩ : ∃ y_ : List Int, y_ = (([(wrap64 (48 + (Int.tmod x0_1 10))) % 256] : List Int)) := ⟨_, rfl⟩
            replace H : (if (strOfNums y104).size + x4_1.size ≤ 9223372036854775807 then (spec_Digits.l0 k1 (wrap64 (Int.tdiv x0_1 10)) (decide (a0 < 0)) ((strOfNums y104) ++ x4_1)) else (none)) = some r := yH H hy104
            have Ny104 := Aside0.mk hy104
            clear hy104
            replace H := ifP H; obtain ⟨c11, H⟩ := H
            have c11b0 := eq_true c11
            have c11b1 := decide_eq_true c11
            try have c11b2 : (9223372036854775807 < (strOfNums y104).size + x4_1.size) = False := eq_false (Nat.not_lt.2 c11)
            have H' := Aside0.mk H
            clear H
            go_wp2_with (first | ((with_reducible refine gate_dst (N := 21) rfl ?_); refine Kd.R_lit (Kd.int .u8) _ 5 ?hg (N := 21) ?hd (xs := ([(wrap64 (48 + (Int.tmod x0_1 10))) % 256] : List Int)) (inner := [.int .u8 ((wrap64 (48 + (Int.tmod x0_1 10))) % 256)]) (ok := fun _ => True) (okp := fun _ => True) ?hr ?hp (fun _ hk => hk) trivial (Below.refl _ _) (Nat.le_refl _) (by simp) ?_; (case hd => rfl); (case hg => rfl); (case hr => first | (go_simp; done) | (go_simp; rfl)); (case hp => exact (Reps.one (show Kd.M (Kd.int .u8) _ _ _ ((wrap64 (48 + (Int.tmod x0_1 10))) % 256) [.int .u8 ((wrap64 (48 + (Int.tmod x0_1 10))) % 256)] from rfl) (Reps.none _ _))); intro vx1 wx1 hox1 hb hg_ hnew_; clear hg_ hnew_; (first | rw [← Ny104.out] at hox1 | (simp only [Int.reduceToNat] at hox1; rw [← Ny104.out] at hox1)); have HOx1 := Aside0.mk (Kd.R_lower hox1 (below_size (hX HB.out))); replace HB := Aside0.mk (below_step (hX HB.out) hb); clear hb hox1; have hcvx1 := own_string (P := Tryz.prog) Tryz.underlying193 Tryz.underlying5 Tryz.underlying9 (Kd.own_of_R HOx1.out)))
            go_roundg k1
            case measure => have := HKy1.out; omega
            case rel => exact ⟨(wrap64 (Int.tdiv x0_1 10)), ((strOfNums y104) ++ x4_1), rS, rS, H', ⟨by have := HKy1.out; omega⟩, ⟨(hX HB.out)⟩⟩
end Go.Proofs.YtmljebgideecjaaGreat.P
namespace Go.Proofs.YtmljebgideecjaaGreat.P
open Go.Proofs.YtmljebgideecjaaGreatZ Go.RowKit Go.Proofs.YtmljebgideecjaaGreatW.PrintWords Go.Proofs.YtmljebgideecjaaGreatW.PrintLast Go.Proofs.YtmljebgideecjaaGreatW.PrintMore
attribute [local go_sem] max2_int min2_int max_two min_two max_three min_three max_four min_four   -- for this text's walks alone
set_option linter.unusedVariables false
set_option linter.unusedSimpArgs false
def spec_NumsText.l0 : Nat → List Int → ByteArray → Int → Option (ByteArray)
  | 0, _, _, _ => none
  | k + 1, x0, x3, x4 => if x4 < (x0.length : Int) then (if x4 > 0 then (if x3.size + 1 ≤ 9223372036854775807 then (if 0 ≤ x4 then ((spec_Digits.f k (rd x0 x4)).bind fun t102 => (if (x3 ++ (⟨#[44]⟩ : ByteArray)).size + t102.size ≤ 9223372036854775807 then (spec_NumsText.l0 k x0 ((x3 ++ (⟨#[44]⟩ : ByteArray)) ++ t102) (wrap64 (x4 + 1))) else (none))) else (none)) else (none)) else (if 0 ≤ x4 then ((spec_Digits.f k (rd x0 x4)).bind fun t104 => (if x3.size + t104.size ≤ 9223372036854775807 then (spec_NumsText.l0 k x0 (x3 ++ t104) (wrap64 (x4 + 1))) else (none))) else (none))) else (some x3)
def spec_NumsText.f (k : Nat) (l0 : List Int) : Option (ByteArray) := spec_NumsText.l0 k l0 (⟨#[]⟩ : ByteArray) 0
set_option maxHeartbeats 8000000 in
set_option maxRecDepth 100000 in
theorem spec_NumsText.calls (k : Nat) (A0 : Option Addr) (c0 : Nat) (l0 : List Int) (r : ByteArray) (w : World) (hr0 : Kd.C (Kd.int .i64) w A0 l0.length l0) (hc0 : l0.length ≤ c0) (h : spec_NumsText.f k l0 = some r) :
    Calls Tryz.prog 113 #[.slice A0 l0.length c0] w fun e w' => e = .returned (.string r) ∧ Below w.heap.size w w' := by
  have HR0 := Aside0.mk hr0
  have HC0 := Aside0.mk hc0
  clear hr0 hc0
  have HB := Aside0.mk (Below.refl w.heap.size w)
  have H := h
  unfold spec_NumsText.f at H
  clear h
  have H' := Aside0.mk H
  clear H
  go_enter Tryz.func113, Tryz.ntmps113
  go_wp2
  go_loopg [3, 4] k (fun kq v3 v4 w' => ∃ (x3_1 : ByteArray) (x4_1 : Int), v3 = .string x3_1 ∧ v4 = .int .i64 x4_1 ∧ Aside0 (spec_NumsText.l0 kq l0 x3_1 x4_1 = some r) ∧ Aside0 (kq ≤ k) ∧ Aside0 (Below w.heap.size w w'))
  case atStart => exact ⟨((⟨#[]⟩ : ByteArray)), (0), rS, rS, H', ⟨Nat.le_refl _⟩, ⟨(hX HB.out)⟩⟩
  case round =>
    clear H'
    try clear c1
    obtain ⟨x3_1, x4_1, rfl, rfl, HA, HKy1, HB⟩ := hrel
    cases gk with
    | zero => exact absurd HA.out (by simp [spec_NumsText.l0])
    | succ k1 =>
      have H := HA.out
      clear HA
      simp only [spec_NumsText.l0] at H
      by_cases c2 : x4_1 < (l0.length : Int)
      · rw [if_pos c2] at H
        have c2b0 := decide_eq_true c2
        clear c2
        by_cases c3 : x4_1 > 0
        · rw [if_pos c3] at H
          have c3b0 := decide_eq_true c3
          clear c3
          replace H := ifP H; obtain ⟨c4, H⟩ := H
          have c4b0 := eq_true c4
          have c4b1 := decide_eq_true c4
          try have c4b2 : (9223372036854775807 < x3_1.size + 1) = False := eq_false (Nat.not_lt.2 c4)
          replace H := ifP H; obtain ⟨c5, H⟩ := H
          have c5b0 := decide_eq_true c5
          clear c5
          replace H := bE H; obtain ⟨t102, A6, H⟩ := H
          replace H := ifP H; obtain ⟨c7, H⟩ := H
          have c7b0 := eq_true c7
          have c7b1 := decide_eq_true c7
          try have c7b2 : (9223372036854775807 < (x3_1 ++ (⟨#[44]⟩ : ByteArray)).size + t102.size) = False := eq_false (Nat.not_lt.2 c7)
          (try (have c7b3 : x3_1.size + 1 + t102.size ≤ 9223372036854775807 := (by have h_ := c7; simp only [ByteArray.size_append, strOfNums_size] at h_; exact h_); have c7b4 := eq_true c7b3; (try have c7b5 := decide_eq_true c7b3); (try have c7b6 := eq_false (Nat.not_lt.2 c7b3))))
          have H' := Aside0.mk H
          clear H
          have px1 : 0 ≤ (x4_1 : Int) := of_decide_eq_true (by first | (with_reducible assumption) | assumption)
          have qx1 : x4_1 < (l0.length : Int) := of_decide_eq_true (by first | (with_reducible assumption) | assumption)
          obtain ⟨adx1, ex1, hxx1⟩ := Kd.at_int HR0.out x4_1 px1 qx1
          cases ex1
          replace hxx1 := (HB.out.cell (World.block_lt_of_cell? w _ hxx1)).trans hxx1
          replace px1 := eq_true px1
          replace qx1 := eq_true qx1
          go_wp2_with (first | (refine goesM 114 20 Tryz.func114 #[.int .i64 (rd l0 x4_1)] ?_; refine (spec_Digits.calls k1 (rd l0 x4_1) t102 _ A6.out).mono ?_; rintro e wx1 ⟨rfl, hb⟩; refine ⟨_, rfl, ?_⟩; replace HB := Aside0.mk (below_step (hX HB.out) hb); clear hb))
          go_roundg k1
          case measure => have := HKy1.out; omega
          case rel => exact ⟨((x3_1 ++ (⟨#[44]⟩ : ByteArray)) ++ t102), (wrap64 (x4_1 + 1)), rS, rS, H', ⟨by have := HKy1.out; omega⟩, ⟨(hX HB.out)⟩⟩
        · rw [if_neg c3] at H
          have c3b0 := decide_eq_false c3
          clear c3
          replace H := ifP H; obtain ⟨c9, H⟩ := H
          have c9b0 := decide_eq_true c9
          clear c9
          replace H := bE H; obtain ⟨t104, A10, H⟩ := H
          replace H := ifP H; obtain ⟨c11, H⟩ := H
          have c11b0 := eq_true c11
          have c11b1 := decide_eq_true c11
          try have c11b2 : (9223372036854775807 < x3_1.size + t104.size) = False := eq_false (Nat.not_lt.2 c11)
          have H' := Aside0.mk H
          clear H
          have px1 : 0 ≤ (x4_1 : Int) := of_decide_eq_true (by first | (with_reducible assumption) | assumption)
          have qx1 : x4_1 < (l0.length : Int) := of_decide_eq_true (by first | (with_reducible assumption) | assumption)
          obtain ⟨adx1, ex1, hxx1⟩ := Kd.at_int HR0.out x4_1 px1 qx1
          cases ex1
          replace hxx1 := (HB.out.cell (World.block_lt_of_cell? w _ hxx1)).trans hxx1
          replace px1 := eq_true px1
          replace qx1 := eq_true qx1
          go_wp2_with (first | (refine goesM 114 20 Tryz.func114 #[.int .i64 (rd l0 x4_1)] ?_; refine (spec_Digits.calls k1 (rd l0 x4_1) t104 _ A10.out).mono ?_; rintro e wx1 ⟨rfl, hb⟩; refine ⟨_, rfl, ?_⟩; replace HB := Aside0.mk (below_step (hX HB.out) hb); clear hb))
          go_roundg k1
          case measure => have := HKy1.out; omega
          case rel => exact ⟨(x3_1 ++ t104), (wrap64 (x4_1 + 1)), rS, rS, H', ⟨by have := HKy1.out; omega⟩, ⟨(hX HB.out)⟩⟩
      · rw [if_neg c2] at H
        have c2b0 := decide_eq_false c2
        clear c2
        obtain rfl := Option.some.inj H
        go_wp2
        go_ret
        exact ⟨rE, (hX HB.out)⟩
end Go.Proofs.YtmljebgideecjaaGreat.P
namespace Go.Proofs.YtmljebgideecjaaGreat.P
open Go.Proofs.YtmljebgideecjaaGreatZ Go.RowKit Go.Proofs.YtmljebgideecjaaGreatW.PrintWords Go.Proofs.YtmljebgideecjaaGreatW.PrintLast Go.Proofs.YtmljebgideecjaaGreatW.PrintMore
attribute [local go_sem] max2_int min2_int max_two min_two max_three min_three max_four min_four   -- for this text's walks alone
set_option linter.unusedVariables false
set_option linter.unusedSimpArgs false
def spec_RowsText.f (k : Nat) (l0_0 : List Int) (a0_1 : Int) : Option (ByteArray) := (spec_NumsText.f k l0_0).bind fun t102 => (if t102.size + 1 ≤ 9223372036854775807 then ((spec_Digits.f k a0_1).bind fun t103 => (if (t102 ++ (⟨#[47]⟩ : ByteArray)).size + t103.size ≤ 9223372036854775807 then (some ((t102 ++ (⟨#[47]⟩ : ByteArray)) ++ t103)) else (none))) else (none))
def spec_RowsText.T1 : Bool × List (List Nat × List Nat) := (true, [([], []), ([0], [0]), ([1], [1]), ([2], [2]), ([], []), ([4], [4]), ([5, 2], [5]), ([3, 6], [3, 6]), ([7, 6, 0, 1, 2, 3, 4, 5, 6, 7], [7])])
def spec_RowsText.B1 : List Nat := [0, 1, 3, 7, 0, 16, 55, 127, 255]
theorem spec_RowsText.tab1 : rtab .any (opsOf Tryz.f54 1) = spec_RowsText.T1 := by kernel_rfl
theorem spec_RowsText.bits1 : waitsOk spec_RowsText.T1.2 spec_RowsText.B1 = true := by kernel_rfl
set_option maxHeartbeats 8000000 in
set_option maxRecDepth 100000 in
theorem spec_RowsText.calls (k : Nat) (A0_0 : Option Addr) (c0_0 : Nat) (l0_0 : List Int) (a0_1 : Int) (r : ByteArray) (w : World) (hr0_0 : Kd.C (Kd.int .i64) w A0_0 l0_0.length l0_0) (hc0_0 : l0_0.length ≤ c0_0) (h : spec_RowsText.f k l0_0 a0_1 = some r) :
    Calls Tryz.prog 54 #[.agg #[.slice A0_0 l0_0.length c0_0, .int .i64 a0_1]] w fun e w' => e = .returned (.string r) ∧ Below w.heap.size w w' := by
  have hu41 := Tryz.underlying41
  have HR0_0 := Aside0.mk hr0_0
  have HC0_0 := Aside0.mk hc0_0
  clear hr0_0 hc0_0
  have HB := Aside0.mk (Below.refl w.heap.size w)
  have H := h
  unfold spec_RowsText.f at H
  clear h
  replace H := bE H; obtain ⟨t102, A2, H⟩ := H
  replace H := ifP H; obtain ⟨c3, H⟩ := H
  have c3b0 := eq_true c3
  have c3b1 := decide_eq_true c3
  try have c3b2 : (9223372036854775807 < t102.size + 1) = False := eq_false (Nat.not_lt.2 c3)
  replace H := bE H; obtain ⟨t103, A4, H⟩ := H
  replace H := ifP H; obtain ⟨c5, H⟩ := H
  have c5b0 := eq_true c5
  have c5b1 := decide_eq_true c5
  try have c5b2 : (9223372036854775807 < (t102 ++ (⟨#[47]⟩ : ByteArray)).size + t103.size) = False := eq_false (Nat.not_lt.2 c5)
  (try (have c5b3 : t102.size + 1 + t103.size ≤ 9223372036854775807 := (by have h_ := c5; simp only [ByteArray.size_append, strOfNums_size] at h_; exact h_); have c5b4 := eq_true c5b3; (try have c5b5 := decide_eq_true c5b3); (try have c5b6 := eq_false (Nat.not_lt.2 c5b3))))
  obtain rfl := Option.some.inj H
  go_enter Tryz.func54, Tryz.ntmps54
  try go_wp2_with (first | (refine boxE 1 #[.slice A0_0 l0_0.length c0_0, .int .i64 a0_1] 41 ?_; intro gbz1 hg wz1 hbox hb; have BKz1 := Aside0.mk (hbox); have GWz1 := Aside0.mk (gX' hg (hX HB.out)); have GEz1 := Aside0.mk (gX' hg (hX HB.out)); replace HB := Aside0.mk (below_step (hX HB.out) hb); clear hb hbox hg))
  replace BKz1 := Aside0.mk (blk_drew BKz1.out)
  replace HB := Aside0.mk (below_drew1 HB.out)
  refine start_ (n := 9) (S := fun w' => w'.cell? ⟨gbz1, 0, none⟩ = some (.slice A0_0 l0_0.length c0_0) ∧ w'.cell? ⟨gbz1, 1, none⟩ = some (.int .i64 a0_1)) (ds := []) (bm 9 0) (by kernel_rfl) rfl (by kernel_rfl) ⟨cK BKz1.out 0, cK BKz1.out 1⟩ (fun hHeld => ?_); refine with_tabW spec_RowsText.tab1 spec_RowsText.bits1 (fun HT_ HW_ => ?_)
  generalize wz1.drew = wz2 at BKz1 HB hHeld ⊢
  refine pZ 0 3 (bm 9 1) HT_.out ?_
  refine pZ 4 7 (bm 9 17) HT_.out ?_
  refine tZ 1 4 (bm 9 19) HT_.out HW_.out hHeld ?_
  refine tZ 5 8 (bm 9 51) HT_.out HW_.out hHeld ?_
  refine oZ 2 (some 5) (bm 9 55) HT_.out (fun K hK => ?_)
  refine goesN Tryz.func113 #[.slice A0_0 l0_0.length c0_0] ?_
  with_reducible refine (spec_NumsText.calls k _ _ l0_0 t102 _ ?side1 ?side2 A2.out).mono ?_
  (case side1 => repeat (first | exact (Kd.C_below HR0_0.out HB.out) | (with_reducible refine Kd.C_alloc ?_ _) | (with_reducible refine Kd.C_drewN ?_ _) | (with_reducible refine Kd.C_drew ?_)))
  (case side2 => exact HC0_0.out)
  rintro e wz3 ⟨rfl, hb⟩
  refine ⟨_, rfl, ?_⟩
  replace BKz1 := Aside0.mk (blk_below (bX BKz1.out) hb)
  replace HB := Aside0.mk (below_step (hX HB.out) hb)
  (try clear hb)
  (try clear hb2)
  (try clear hk)
  (try clear hi)
  refine hK.out _ _ ⟨cK BKz1.out 0, cK BKz1.out 1⟩ (fun hHeld => ?_)
  clear hK K
  refine nZ 5 ?_
  refine pZ 3 6 (bm 9 63) HT_.out ?_
  refine oZ 6 (some 9) (bm 9 127) HT_.out (fun K hK => ?_)
  refine goesN Tryz.func114 #[.int .i64 a0_1] ?_
  with_reducible refine (spec_Digits.calls k a0_1 t103 _ A4.out).mono ?_
  rintro e wz4 ⟨rfl, hb⟩
  refine ⟨_, rfl, ?_⟩
  replace BKz1 := Aside0.mk (blk_below (bX BKz1.out) hb)
  replace HB := Aside0.mk (below_step (hX HB.out) hb)
  (try clear hb)
  (try clear hb2)
  (try clear hk)
  (try clear hi)
  refine hK.out _ _ ⟨cK BKz1.out 0, cK BKz1.out 1⟩ (fun hHeld => ?_)
  clear hK K
  refine nZ 9 ?_
  refine pZ 7 10 (bm 9 255) HT_.out ?_
  refine pZ 8 2 (bm 9 511) HT_.out ?_
  refine done_ (done_of HT_.out (by kernel_rfl)) ?_
  try go_wp2
  go_ret
  exact ⟨rE, (hX HB.out)⟩
end Go.Proofs.YtmljebgideecjaaGreat.P
namespace Go.Proofs.YtmljebgideecjaaGreat.P
open Go.Proofs.YtmljebgideecjaaGreatZ Go.RowKit Go.Proofs.YtmljebgideecjaaGreatW.PrintWords Go.Proofs.YtmljebgideecjaaGreatW.PrintLast Go.Proofs.YtmljebgideecjaaGreatW.PrintMore
attribute [local go_sem] max2_int min2_int max_two min_two max_three min_three max_four min_four   -- for this text's walks alone
set_option linter.unusedVariables false
set_option linter.unusedSimpArgs false
def spec_StateAt.f  : Option (Int) := some 13
set_option maxHeartbeats 8000000 in
set_option maxRecDepth 100000 in
theorem spec_StateAt.calls  (r : Int) (w : World) (h : spec_StateAt.f  = some r) :
    Calls Tryz.prog 115 #[] w fun e w' => e = .returned (.int .i64 r) ∧ Drawn0 w w' := by
  have H := h
  unfold spec_StateAt.f at H
  clear h
  obtain rfl := Option.some.inj H
  go_enter Tryz.func115, Tryz.ntmps115
  go_wp2
  go_ret
  exact ⟨by first | rfl | (simp; done) | (simp [*]; done), dX⟩
end Go.Proofs.YtmljebgideecjaaGreat.P
namespace Go.Proofs.YtmljebgideecjaaGreat.P
open Go.Proofs.YtmljebgideecjaaGreatZ Go.RowKit Go.Proofs.YtmljebgideecjaaGreatW.PrintWords Go.Proofs.YtmljebgideecjaaGreatW.PrintLast Go.Proofs.YtmljebgideecjaaGreatW.PrintMore
attribute [local go_sem] max2_int min2_int max_two min_two max_three min_three max_four min_four   -- for this text's walks alone
set_option linter.unusedVariables false
set_option linter.unusedSimpArgs false
def spec_RowsIn.f (l0 : List Int) : Option (List Int × Int) := if (l0.length : Int) = 20 then ((some (([] : List Int) : List Int)).bind fun y102 => (if 4 ≤ (l0.length : Int) then (if y102.length + (l0.take 4).length < 17592186044416 then ((spec_StateAt.f).bind fun t109 => (if 0 ≤ t109 then (if t109 < (l0.length : Int) then (some ((y102 ++ (l0.take 4)), rd l0 t109)) else (none)) else (none))) else (none)) else (none))) else (some (([] : List Int), 0))
set_option maxHeartbeats 8000000 in
set_option maxRecDepth 100000 in
theorem spec_RowsIn.calls (A0 : Option Addr) (c0 : Nat) (l0 : List Int) (r1 : List Int) (r2 : Int) (w : World) (hr0 : Kd.C (Kd.int .i64) w A0 l0.length l0) (hc0 : l0.length ≤ c0) (h : spec_RowsIn.f l0 = some (r1, r2)) :
    Calls Tryz.prog 55 #[.slice A0 l0.length c0] w fun e w' => ∃ v0_ : Value, e = .returned (.agg #[v0_, .int .i64 r2]) ∧ Kd.R (Kd.int .i64) 3 w' w.heap.size (fun _ => True) v0_ r1 ∧ Below w.heap.size w w' := by
  have hu41 := Tryz.underlying41
  have HR0 := Aside0.mk hr0
  have HC0 := Aside0.mk hc0
  clear hr0 hc0
  have HB := Aside0.mk (Below.refl w.heap.size w)
  have H := h
  unfold spec_RowsIn.f at H
  clear h
  go_enter Tryz.func55, Tryz.ntmps55
  by_cases c2 : (l0.length : Int) = 20
  · rw [if_pos c2] at H
    obtain ⟨c2b0, c2b1⟩ := eqT c2
    clear c2
    replace H := sE H; obtain ⟨y102, Ny102, H⟩ := H
    replace H := ifP H; obtain ⟨c3, H⟩ := H
    have c3b0 := eq_true c3
    have c3b1 := decide_eq_true c3
    clear c3
    replace H := ifP H; obtain ⟨c4, H⟩ := H
    have LMc4 := Aside0.mk c4
    clear c4
    obtain ⟨y106, hy106⟩ : ∃ y_ : List Int, y_ = (y102 ++ (l0.take 4)) := ⟨_, rfl⟩
    replace H : ((spec_StateAt.f).bind fun t109 => (if 0 ≤ t109 then (if t109 < (l0.length : Int) then (some (y106, rd l0 t109)) else (none)) else (none))) = some (r1, r2) := yH H hy106
    have Ny106 := Aside0.mk hy106
    clear hy106
    replace H := bE H; obtain ⟨t109, A5, H⟩ := H
    replace H := ifP H; obtain ⟨c6, H⟩ := H
    have c6b0 := decide_eq_true c6
    clear c6
    replace H := ifP H; obtain ⟨c7, H⟩ := H
    have c7b0 := decide_eq_true c7
    clear c7
    simp only [Option.some.injEq, Prod.mk.injEq] at H
    obtain ⟨rfl, rfl⟩ := H
    go_wp2_with (first | (refine boxE 2 #[.slice none 0 0, .int .i64 0] 41 ?_; intro gbz1 hg wz1 hbox hb; have BKz1 := Aside0.mk (hbox); have GWz1 := Aside0.mk (gX' hg (hX HB.out)); have GEz1 := Aside0.mk (gX' hg (hX HB.out)); replace HB := Aside0.mk (below_step (hX HB.out) hb); clear hb hbox hg) | ((with_reducible refine gate_dst (N := 7) rfl ?_); refine Kd.R_lit (Kd.int .i64) _ 3 ?hg (N := 7) ?hd (xs := ([] : List Int)) (inner := []) (ok := fun _ => True) (okp := fun _ => True) ?hr ?hp (fun _ hk => hk) trivial (Below.refl _ _) (Nat.le_refl _) (by simp) ?_; (case hd => rfl); (case hg => rfl); (case hr => first | (go_simp; done) | (go_simp; rfl)); (case hp => exact (Reps.none _ _)); intro vz1 wz2 hoz1 hb hg_ hnew_; clear hg_ hnew_; (first | rw [← Ny102.out] at hoz1 | (simp only [Int.reduceToNat] at hoz1; rw [← Ny102.out] at hoz1)); have HOz1 := Aside0.mk (Kd.R_lower hoz1 (below_size (hX HB.out))); replace BKz1 := Aside0.mk (blk_below (bX BKz1.out) hb); replace HB := Aside0.mk (below_step (hX HB.out) hb); clear hb hoz1; obtain ⟨iz1, hiz1, _, hszz1, _⟩ := info_parts info3; obtain ⟨hcutz1, hAz1, hCz1⟩ := print_take_of (P := Tryz.prog) (Value.int .i64) 0 28 3 .i64 Tryz.underlying28 hiz1 hszz1 A0 c0 l0 4 (by omega) (of_decide_eq_true (by first | (with_reducible assumption) | assumption)) HC0.out; have HRz1 := Aside0.mk (Kd.C_of_reads (h1 := fun _ => rfl) (hAz1 _ (Kd.reads_of_C HR0.out))); have HCz1 := Aside0.mk hCz1; clear hAz1 hCz1 hiz1 hszz1) | ((with_reducible refine gate_builtin (b := .append) (xs := #[.tmp 7, .tmp 9]) rfl ?_); at_builtin; refine Kd.R_append_rows (Kd.int .i64) (w0 := w) w.heap.size rfl (.tmp 7) (.tmp 9) 28 3 (.int .i64 0) 8 rfl Tryz.underlying28 info3 rfl (by decide) (by omega) vz1 y102 (l0.take 4) _ _ _ (fun _ => True) (fun _ => False) rfl rfl ?aO ?aR (fun _ _ h => h) (fun _ h => h.elim) ?aF ?aB ?aS ?aL ?_; (case aR => first | (rw [← List.length_take]; repeat (first | exact (Kd.C_below HRz1.out HB.out) | (with_reducible refine Kd.C_alloc ?_ _) | (with_reducible refine Kd.C_drewN ?_ _) | (with_reducible refine Kd.C_drew ?_))) | (rw [← show (l0.take 4).length = 4 from (by rw [List.length_take]; have h_ : (4 : Int) ≤ (l0.length : Int) := of_decide_eq_true (by first | (with_reducible assumption) | assumption); omega)]; repeat (first | exact (Kd.C_below HRz1.out HB.out) | (with_reducible refine Kd.C_alloc ?_ _) | (with_reducible refine Kd.C_drewN ?_ _) | (with_reducible refine Kd.C_drew ?_))) | (repeat (first | exact (Kd.C_below HRz1.out HB.out) | (with_reducible refine Kd.C_alloc ?_ _) | (with_reducible refine Kd.C_drewN ?_ _) | (with_reducible refine Kd.C_drew ?_)))); (case aB => exact (hX HB.out)); (case aF => exact (fun _ _ => trivial)); (case aO => exact (rX HOz1.out)); (case aS => exact (below_size (hX HB.out))); (case aL => have := LMc4.out; have hlx_ := (show (l0.take 4).length = 4 from (by rw [List.length_take]; have h_ : (4 : Int) ≤ (l0.length : Int) := of_decide_eq_true (by first | (with_reducible assumption) | assumption); omega)); omega); intro vz2 wz3 ho hb hg hat; rw [← Ny106.out] at ho; have HOz2 := Aside0.mk (ho); replace BKz1 := Aside0.mk (blk_grown (g := gbz1) (o := .cells #[.slice none 0 0, .int .i64 0] 41 (0, 0)) (bX BKz1.out) hg (Kd.R_ne HOz1.out BKz1.out (by decide))); replace HB := Aside0.mk (hb); clear HOz1; clear ho hb hg hat) | (refine goesM 115 12 Tryz.func115 #[] ?_; refine (spec_StateAt.calls  t109 _ A5.out).mono ?_; rintro e w' ⟨rfl, ⟨nd, rfl⟩⟩; refine ⟨_, rfl, ?_⟩; (try (rw [drewN_self wz3]; generalize hq_ : World.drewN wz3 _ = wz3; have nz1 : Aside0 (Kd.R (Kd.int .i64) 3 wz3 w.heap.size (fun _ => True) vz2 y106) := ⟨by rw [← hq_]; exact (rX HOz2.out)⟩; have nz2 : Aside0 (wz3.heap[gbz1]? = some (.cells #[.slice none 0 0, .int .i64 0] 41 (0, 0))) := ⟨by rw [← hq_]; exact (bX BKz1.out)⟩; have nz3 : Aside0 (Below w.heap.size w wz3) := ⟨by rw [← hq_]; exact (hX HB.out)⟩; clear HOz2 BKz1 HB hq_; have HOz2 := nz1; have BKz1 := nz2; have HB := nz3; clear nz1 nz2 nz3)); have pz1 : 0 ≤ (t109 : Int) := of_decide_eq_true (by first | (with_reducible assumption) | assumption); have qz1 : t109 < (l0.length : Int) := of_decide_eq_true (by first | (with_reducible assumption) | assumption); obtain ⟨adz1, ez1, hxz1⟩ := Kd.at_int HR0.out t109 pz1 qz1; cases ez1; replace hxz1 := (HB.out.cell (World.block_lt_of_cell? w _ hxz1)).trans hxz1; replace pz1 := eq_true pz1; replace qz1 := eq_true qz1; obtain ⟨Aoz1, coz1, eoz1⟩ := Kd.R_slice HOz2.out; subst eoz1; obtain ⟨hczz1, hczz2, hfzz1, hfzz2⟩ := cZ2 BKz1.out))
    refine bodyPost_ret (results_cell_row rfl _ _ gbz1 41 #[.slice Aoz1 y106.length coz1, .int .i64 (rd l0 t109)] (0, 0) _ rfl (bP BKz1.out) Tryz.underlying41 rfl (by kernel_rfl)) rfl ?_
    exact ⟨_, rE, (rT (h := by exact Kd.R_mono (Kd.R_far (p := ⟨gbz1, 1, none⟩) (Kd.R_far (p := ⟨gbz1, 0, none⟩) (Kd.R_types HOz2.out BKz1.out (by decide)) (fun _ hk => hk.2) (.slice Aoz1 y106.length coz1)) (fun _ hk => hk.2) (.int .i64 (rd l0 t109))) (fun _ hk => trivial))), (hX HB.out)⟩
  · rw [if_neg c2] at H
    obtain ⟨c2b0, c2b1⟩ := eqF c2
    simp only [Option.some.injEq, Prod.mk.injEq] at H
    obtain ⟨rfl, rfl⟩ := H
    go_wp2_with (first | (refine boxE 2 #[.slice none 0 0, .int .i64 0] 41 ?_; intro gbz1 hg wz1 hbox hb; have BKz1 := Aside0.mk (hbox); have GWz1 := Aside0.mk (gX' hg (hX HB.out)); have GEz1 := Aside0.mk (gX' hg (hX HB.out)); replace HB := Aside0.mk (below_step (hX HB.out) hb); clear hb hbox hg; obtain ⟨hczz1, hczz2, hfzz1, hfzz2⟩ := cZ2 BKz1.out))
    refine bodyPost_ret (results_cell_row rfl _ _ gbz1 41 #[.slice none 0 0, .int .i64 0] (0, 0) _ rfl (bP BKz1.out) Tryz.underlying41 rfl (by kernel_rfl)) rfl ?_
    exact ⟨(Value.slice none 0 0), rE, (by first | exact Kd.R_nil _ _ _ _ _ | exact Kd.S_nil _ _ _ _ _ | exact Kd.V_nil _ _ _ _ _ | exact Kd.N_nil _ _ _ _ _ | exact Kd.Q_nil _ _ _ _ _), (hX HB.out)⟩
end Go.Proofs.YtmljebgideecjaaGreat.P
namespace Go.Proofs.YtmljebgideecjaaGreat.P
open Go.Proofs.YtmljebgideecjaaGreatZ Go.RowKit Go.Proofs.YtmljebgideecjaaGreatW.PrintWords Go.Proofs.YtmljebgideecjaaGreatW.PrintLast Go.Proofs.YtmljebgideecjaaGreatW.PrintMore
attribute [local go_sem] max2_int min2_int max_two min_two max_three min_three max_four min_four   -- for this text's walks alone
set_option linter.unusedVariables false
set_option linter.unusedSimpArgs false
def spec_Entries.l0 : Nat → Int → Int → Int → Int → List (S165) → Int → List Int → Option (Int × Int × Int × Bool)
  | 0, _, _, _, _, _, _, _ => none
  | k + 1, x1, x6, x102000, x102001, x102002, x102003, x102004 => if x6 < (x102002.length : Int) then (if 0 ≤ x6 then (if ((rd_T165 x102002 x6).f0) = x1 then (some ((rd_T165 x102002 x6).f0, (rd_T165 x102002 x6).f1, (rd_T165 x102002 x6).f2, true)) else (spec_Entries.l0 k x1 (wrap64 (x6 + 1)) x102000 x102001 x102002 x102003 x102004)) else (none)) else (some (0, 0, 0, false))
def spec_Entries.f (k : Nat) (a0_0 : Int) (a0_1 : Int) (l0_2 : List (S165)) (a0_3 : Int) (l0_4 : List Int) (a1 : Int) : Option (Int × Int × Int × Bool) := spec_Entries.l0 k a1 0 a0_0 a0_1 l0_2 a0_3 l0_4
set_option maxHeartbeats 8000000 in
set_option maxRecDepth 100000 in
theorem spec_Entries.calls (k : Nat) (a0_0 : Int) (a0_1 : Int) (A0_2 : Option Addr) (c0_2 : Nat) (l0_2 : List (S165)) (a0_3 : Int) (A0_4 : Option Addr) (c0_4 : Nat) (l0_4 : List Int) (a1 : Int) (r1 : Int) (r2 : Int) (r3 : Int) (r4 : Bool) (w : World) (hr0_2 : Kd.C k165 w A0_2 l0_2.length l0_2) (hc0_2 : l0_2.length ≤ c0_2) (hr0_4 : Kd.C (Kd.int .i64) w A0_4 l0_4.length l0_4) (hc0_4 : l0_4.length ≤ c0_4) (h : spec_Entries.f k a0_0 a0_1 l0_2 a0_3 l0_4 a1 = some (r1, r2, r3, r4)) :
    Calls Tryz.prog 158 #[.agg #[.int .i64 a0_0, .int .i64 a0_1, .slice A0_2 l0_2.length c0_2, .int .i64 a0_3, .slice A0_4 l0_4.length c0_4], .int .i64 a1] w fun e w' => e = .returned (.tuple #[.agg #[.int .i64 r1, .int .i64 r2, .int .i64 r3], .bool r4]) ∧ Below w.heap.size w w' := by
  have hu162 := Tryz.underlying162
  have hu165 := Tryz.underlying165
  have HR0_2 := Aside0.mk hr0_2
  have HC0_2 := Aside0.mk hc0_2
  clear hr0_2 hc0_2
  have HR0_4 := Aside0.mk hr0_4
  have HC0_4 := Aside0.mk hc0_4
  clear hr0_4 hc0_4
  have HB := Aside0.mk (Below.refl w.heap.size w)
  have H := h
  unfold spec_Entries.f at H
  clear h
  have H' := Aside0.mk H
  clear H
  go_enter Tryz.func158, Tryz.ntmps158
  go_wp2_with (first | (refine boxE 2 #[.int .i64 a0_0, .int .i64 a0_1, .slice A0_2 l0_2.length c0_2, .int .i64 a0_3, .slice A0_4 l0_4.length c0_4] 162 ?_; intro gbz1 hg wz1 hbox hb; have BKz1 := Aside0.mk (hbox); have GWz1 := Aside0.mk (gX' hg (hX HB.out)); have GEz1 := Aside0.mk (gX' hg (hX HB.out)); replace HB := Aside0.mk (below_step (hX HB.out) hb); clear hb hbox hg) | (refine boxE 4 #[.int .i64 0, .int .i64 0, .int .i64 0] 165 ?_; intro gbz2 hg wz2 hbox hb; have BKz2 := Aside0.mk (hbox); have GWz2 := Aside0.mk (gX' hg (hX HB.out)); have GEz2 := Aside0.mk (gX' hg (hX HB.out)); have NBz1 := Aside0.mk (gL hg (bX BKz1.out)); have NBz2 := Aside0.mk (gG hg (bX BKz1.out)); replace BKz1 := Aside0.mk (blk_below (bX BKz1.out) hb); replace HB := Aside0.mk (below_step (hX HB.out) hb); clear hb hbox hg))
  go_loopg [6] k (fun kq v6 w' => ∃ (x6_1 : Int) (x103000_1 : Int) (x103001_1 : Int) (x103002_1 : Int), v6 = .int .i64 x6_1 ∧ Aside0 (spec_Entries.l0 kq a1 x6_1 a0_0 a0_1 l0_2 a0_3 l0_4 = some (r1, r2, r3, r4)) ∧ Aside0 (kq ≤ k) ∧ Aside0 (w'.heap[gbz1]? = some (.cells #[.int .i64 a0_0, .int .i64 a0_1, (.slice A0_2 l0_2.length c0_2), .int .i64 a0_3, (.slice A0_4 l0_4.length c0_4)] 162 (0, 0))) ∧ Aside0 (w'.heap[gbz2]? = some (.cells #[.int .i64 x103000_1, .int .i64 x103001_1, .int .i64 x103002_1] 165 (0, 0))) ∧ Aside0 (Below w.heap.size w w'))
  case atStart => exact ⟨(0), (0), (0), (0), rS, H', ⟨Nat.le_refl _⟩, ⟨(bX BKz1.out)⟩, ⟨(bX BKz2.out)⟩, ⟨(hX HB.out)⟩⟩
  case round =>
    clear H'
    try clear c1
    try clear p2
    obtain ⟨x6_1, x103000_1, x103001_1, x103002_1, rfl, HA, HKy1, BKz1, BKz2, HB⟩ := hrel
    cases gk with
    | zero => exact absurd HA.out (by simp [spec_Entries.l0])
    | succ k1 =>
      have H := HA.out
      clear HA
      simp only [spec_Entries.l0] at H
      by_cases c5 : x6_1 < (l0_2.length : Int)
      · rw [if_pos c5] at H
        have c5b0 := decide_eq_true c5
        clear c5
        replace H := ifP H; obtain ⟨c6, H⟩ := H
        have c6b0 := decide_eq_true c6
        clear c6
        by_cases c7 : ((rd_T165 l0_2 x6_1).f0) = a1
        · rw [if_pos c7] at H
          obtain ⟨c7b0, c7b1⟩ := eqT c7
          clear c7
          simp only [Option.some.injEq, Prod.mk.injEq] at H
          obtain ⟨rfl, rfl, rfl, rfl⟩ := H
          have hnbx1 := NBz1.out
          have hncx1 := NBz2.out
          obtain ⟨hczx1, hczx2, hczx3, hczx4, hczx5, hfzx1, hfzx2, hfzx3, hfzx4, hfzx5⟩ := cZ5 BKz1.out
          have px1 : 0 ≤ (x6_1 : Int) := of_decide_eq_true (by first | (with_reducible assumption) | assumption)
          have qx1 : x6_1 < (l0_2.length : Int) := of_decide_eq_true (by first | (with_reducible assumption) | assumption)
          obtain ⟨adx1, ex1, hxx1, hxx2, hxx3⟩ := at_T165 HR0_2.out x6_1 px1 qx1
          cases ex1
          replace hxx1 := (HB.out.cell (World.block_lt_of_cell? w _ hxx1)).trans hxx1
          replace hxx2 := (HB.out.cell (World.block_lt_of_cell? w _ hxx2)).trans hxx2
          replace hxx3 := (HB.out.cell (World.block_lt_of_cell? w _ hxx3)).trans hxx3
          replace px1 := eq_true px1
          replace qx1 := eq_true qx1
          have px2 : 0 ≤ (x6_1 : Int) := of_decide_eq_true (by first | (with_reducible assumption) | assumption)
          have qx2 : x6_1 < (l0_2.length : Int) := of_decide_eq_true (by first | (with_reducible assumption) | assumption)
          obtain ⟨adx2, ex2, hxx4, hxx5, hxx6⟩ := at_T165 HR0_2.out x6_1 px2 qx2
          obtain rfl : adx1 = adx2 := (by injection ex2)
          replace hxx4 := (HB.out.cell (World.block_lt_of_cell? w _ hxx4)).trans hxx4
          replace hxx5 := (HB.out.cell (World.block_lt_of_cell? w _ hxx5)).trans hxx5
          replace hxx6 := (HB.out.cell (World.block_lt_of_cell? w _ hxx6)).trans hxx6
          replace px2 := eq_true px2
          replace qx2 := eq_true qx2
          obtain ⟨hczx6, hczx7, hczx8, hfzx6, hfzx7, hfzx8⟩ := cZ3 BKz2.out
          go_wp2
          refine bodyPost_ret (results_ct rfl _ _ gbz2 165 #[.int .i64 ((rd_T165 l0_2 x6_1).f0), .int .i64 ((rd_T165 l0_2 x6_1).f1), .int .i64 ((rd_T165 l0_2 x6_1).f2)] (0, 0) _ rfl (bP BKz2.out) Tryz.underlying165 rfl (by kernel_rfl)) rfl ?_
          exact ⟨rE, (hX HB.out)⟩
        · rw [if_neg c7] at H
          obtain ⟨c7b0, c7b1⟩ := eqF c7
          have H' := Aside0.mk H
          clear H
          have hnbx1 := NBz1.out
          have hncx1 := NBz2.out
          obtain ⟨hczx1, hczx2, hczx3, hczx4, hczx5, hfzx1, hfzx2, hfzx3, hfzx4, hfzx5⟩ := cZ5 BKz1.out
          have px1 : 0 ≤ (x6_1 : Int) := of_decide_eq_true (by first | (with_reducible assumption) | assumption)
          have qx1 : x6_1 < (l0_2.length : Int) := of_decide_eq_true (by first | (with_reducible assumption) | assumption)
          obtain ⟨adx1, ex1, hxx1, hxx2, hxx3⟩ := at_T165 HR0_2.out x6_1 px1 qx1
          cases ex1
          replace hxx1 := (HB.out.cell (World.block_lt_of_cell? w _ hxx1)).trans hxx1
          replace hxx2 := (HB.out.cell (World.block_lt_of_cell? w _ hxx2)).trans hxx2
          replace hxx3 := (HB.out.cell (World.block_lt_of_cell? w _ hxx3)).trans hxx3
          replace px1 := eq_true px1
          replace qx1 := eq_true qx1
          go_wp2
          go_roundg k1
          case measure => have := HKy1.out; omega
          case rel => exact ⟨(wrap64 (x6_1 + 1)), (x103000_1), (x103001_1), (x103002_1), rS, H', ⟨by have := HKy1.out; omega⟩, ⟨(bX BKz1.out)⟩, ⟨(bX BKz2.out)⟩, ⟨(hX HB.out)⟩⟩
      · rw [if_neg c5] at H
        have c5b0 := decide_eq_false c5
        clear c5
        simp only [Option.some.injEq, Prod.mk.injEq] at H
        obtain ⟨rfl, rfl, rfl, rfl⟩ := H
        have hnbx1 := NBz1.out
        have hncx1 := NBz2.out
        obtain ⟨hczx1, hczx2, hczx3, hczx4, hczx5, hfzx1, hfzx2, hfzx3, hfzx4, hfzx5⟩ := cZ5 BKz1.out
        obtain ⟨hczx6, hczx7, hczx8, hfzx6, hfzx7, hfzx8⟩ := cZ3 BKz2.out
        go_wp2
        refine bodyPost_ret (results_ct rfl _ _ gbz2 165 #[.int .i64 0, .int .i64 0, .int .i64 0] (0, 0) _ rfl (bP BKz2.out) Tryz.underlying165 rfl (by kernel_rfl)) rfl ?_
        exact ⟨rE, (hX HB.out)⟩
end Go.Proofs.YtmljebgideecjaaGreat.P
namespace Go.Proofs.YtmljebgideecjaaGreat.P
open Go.Proofs.YtmljebgideecjaaGreatZ Go.RowKit Go.Proofs.YtmljebgideecjaaGreatW.PrintWords Go.Proofs.YtmljebgideecjaaGreatW.PrintLast Go.Proofs.YtmljebgideecjaaGreatW.PrintMore
attribute [local go_sem] max2_int min2_int max_two min_two max_three min_three max_four min_four   -- for this text's walks alone
set_option linter.unusedVariables false
set_option linter.unusedSimpArgs false
def spec_l1In.f (a0 : Int) (a1 : Int) (a2 : Int) : Option (Bool) := if a0 ≥ a1 then (some (decide (a0 ≤ a2))) else (some false)
set_option maxHeartbeats 8000000 in
set_option maxRecDepth 100000 in
theorem spec_l1In.calls (a0 : Int) (a1 : Int) (a2 : Int) (r : Bool) (w : World) (h : spec_l1In.f a0 a1 a2 = some r) :
    Calls Tryz.prog 43 #[.int .i64 a0, .int .i64 a1, .int .i64 a2] w fun e w' => e = .returned (.bool r) ∧ Drawn0 w w' := by
  have H := h
  unfold spec_l1In.f at H
  clear h
  go_enter Tryz.func43, Tryz.ntmps43
  by_cases c4 : a0 ≥ a1
  · rw [if_pos c4] at H
    have c4b0 := decide_eq_true c4
    clear c4
    obtain rfl := Option.some.inj H
    go_wp2
    go_ret
    exact ⟨by first | rfl | (simp; done) | (simp [*]; done), dX⟩
  · rw [if_neg c4] at H
    have c4b0 := decide_eq_false c4
    clear c4
    obtain rfl := Option.some.inj H
    go_wp2
    go_ret
    exact ⟨by first | rfl | (simp; done) | (simp [*]; done), dX⟩
end Go.Proofs.YtmljebgideecjaaGreat.P
namespace Go.Proofs.YtmljebgideecjaaGreat.P
open Go.Proofs.YtmljebgideecjaaGreatZ Go.RowKit Go.Proofs.YtmljebgideecjaaGreatW.PrintWords Go.Proofs.YtmljebgideecjaaGreatW.PrintLast Go.Proofs.YtmljebgideecjaaGreatW.PrintMore
attribute [local go_sem] max2_int min2_int max_two min_two max_three min_three max_four min_four   -- for this text's walks alone
set_option linter.unusedVariables false
set_option linter.unusedSimpArgs false
def spec_ValueAt.f (k : Nat) (l0 : List (S140)) (l1 : List (S162)) (a2 : Int) : Option (Int) := (spec_l1In.f a2 0 (wrap64 ((l0.length : Int) - 1))).bind fun t101 => (if t101 = true then (if 0 ≤ a2 then (if a2 < (l0.length : Int) then (if ((rd_T140 l0 a2).f1) = 0 then (some ((rd_T140 l0 a2).f0)) else ((spec_l1In.f ((rd_T140 l0 a2).f1) 1 (l1.length : Int)).bind fun t104 => (if t104 = true then (if 0 ≤ (wrap64 (((rd_T140 l0 a2).f1) - 1)) then (if (wrap64 (((rd_T140 l0 a2).f1) - 1)) < (l1.length : Int) then ((spec_Entries.f k ((rd_T162 l1 (wrap64 (((rd_T140 l0 a2).f1) - 1))).f0) ((rd_T162 l1 (wrap64 (((rd_T140 l0 a2).f1) - 1))).f1) ((rd_T162 l1 (wrap64 (((rd_T140 l0 a2).f1) - 1))).f2) ((rd_T162 l1 (wrap64 (((rd_T140 l0 a2).f1) - 1))).f3.f0) ((rd_T162 l1 (wrap64 (((rd_T140 l0 a2).f1) - 1))).f3.f1) a2).bind fun bt107 => (if ((rd_T162 l1 (wrap64 (((rd_T140 l0 a2).f1) - 1))).f0) = ((rd_T140 l0 a2).f2) then (if ((rd_T162 l1 (wrap64 (((rd_T140 l0 a2).f1) - 1))).f1) = 2 then (some bt107.2.2.1) else (some bt107.2.1)) else (some bt107.2.1))) else (none)) else (none)) else (some 0)))) else (none)) else (none)) else (some 0))
set_option maxHeartbeats 8000000 in
set_option maxRecDepth 100000 in
theorem spec_ValueAt.calls (k : Nat) (A0 : Option Addr) (c0 : Nat) (l0 : List (S140)) (A1 : Option Addr) (c1 : Nat) (l1 : List (S162)) (a2 : Int) (r : Int) (w : World) (hr0 : Kd.C k140 w A0 l0.length l0) (hc0 : l0.length ≤ c0) (hr1 : Kd.C k162 w A1 l1.length l1) (hc1 : l1.length ≤ c1) (h : spec_ValueAt.f k l0 l1 a2 = some r) :
    Calls Tryz.prog 116 #[.slice A0 l0.length c0, .slice A1 l1.length c1, .int .i64 a2] w fun e w' => e = .returned (.int .i64 r) ∧ Below w.heap.size w w' := by
  have hu140 := Tryz.underlying140
  have hu162 := Tryz.underlying162
  have hu165 := Tryz.underlying165
  have HR0 := Aside0.mk hr0
  have HC0 := Aside0.mk hc0
  clear hr0 hc0
  have HR1 := Aside0.mk hr1
  have HC1 := Aside0.mk hc1
  clear hr1 hc1
  have HB := Aside0.mk (Below.refl w.heap.size w)
  have H := h
  unfold spec_ValueAt.f at H
  clear h
  replace H := bE H; obtain ⟨t101, A4, H⟩ := H
  go_enter Tryz.func116, Tryz.ntmps116
  by_cases c5 : t101 = true
  · subst c5
    rw [if_pos rfl] at H
    replace H := ifP H; obtain ⟨c6, H⟩ := H
    have c6b0 := decide_eq_true c6
    clear c6
    replace H := ifP H; obtain ⟨c7, H⟩ := H
    have c7b0 := decide_eq_true c7
    clear c7
    go_wp2_with (first | (refine goesM 43 15 Tryz.func43 #[.int .i64 a2, .int .i64 0, .int .i64 (wrap64 ((l0.length : Int) - 1))] ?_; refine (spec_l1In.calls a2 0 (wrap64 ((l0.length : Int) - 1)) true _ A4.out).mono ?_; rintro e w' ⟨rfl, ⟨nd, rfl⟩⟩; refine ⟨_, rfl, ?_⟩; have pz1 : 0 ≤ (a2 : Int) := of_decide_eq_true (by first | (with_reducible assumption) | assumption); have qz1 : a2 < (l0.length : Int) := of_decide_eq_true (by first | (with_reducible assumption) | assumption); obtain ⟨adz1, ez1, hxz1, hxz2, hxz3⟩ := at_T140 HR0.out a2 pz1 qz1; cases ez1; replace pz1 := eq_true pz1; replace qz1 := eq_true qz1) | (refine boxE 7 #[.int .i64 0, .int .i64 0, .int .i64 0] 140 ?_; intro gbz1 hg wz1 hbox hb; have BKz1 := Aside0.mk (hbox); have GWz1 := Aside0.mk (gX' hg (hX HB.out)); have GEz1 := Aside0.mk (gX' hg (hX HB.out)); replace HB := Aside0.mk (below_step (hX HB.out) hb); clear hb hbox hg; obtain ⟨hczz1, hczz2, hczz3, hfzz1, hfzz2, hfzz3⟩ := cZ3 BKz1.out; refine Stop.out ?_))
    refine ⟨?_⟩
    by_cases c8 : ((rd_T140 l0 a2).f1) = 0
    · rw [if_pos c8] at H
      obtain ⟨c8b0, c8b1⟩ := eqT c8
      clear c8
      obtain rfl := Option.some.inj H
      go_wp2
      go_ret
      exact ⟨rE, (hX HB.out)⟩
    · rw [if_neg c8] at H
      obtain ⟨c8b0, c8b1⟩ := eqF c8
      replace H := bE H; obtain ⟨t104, A11, H⟩ := H
      by_cases c12 : t104 = true
      · subst c12
        rw [if_pos rfl] at H
        obtain ⟨ji13, hji13⟩ : ∃ j_ : Int, (wrap64 (((rd_T140 l0 a2).f1) - 1)) = j_ := ⟨_, rfl⟩
        replace H : (if 0 ≤ (ji13) then (if (ji13) < (l1.length : Int) then ((spec_Entries.f k ((rd_T162 l1 (ji13)).f0) ((rd_T162 l1 (ji13)).f1) ((rd_T162 l1 (ji13)).f2) ((rd_T162 l1 (ji13)).f3.f0) ((rd_T162 l1 (ji13)).f3.f1) a2).bind fun bt107 => (if ((rd_T162 l1 (ji13)).f0) = ((rd_T140 l0 a2).f2) then (if ((rd_T162 l1 (ji13)).f1) = 2 then (some bt107.2.2.1) else (some bt107.2.1)) else (some bt107.2.1))) else (none)) else (none)) = some r := by first | (rw [hji13] at H; exact H) | (simp only [hji13] at H ⊢; exact H)
        (try rw [hji13] at A4)
        (try rw [hji13] at A11)
        have hji13w : (IntKind.i64.wrap (((rd_T140 l0 a2).f1) - 1)) = ji13 := (i64_w _).trans hji13
        replace H := ifP H; obtain ⟨c14, H⟩ := H
        have c14b0 := decide_eq_true c14
        clear c14
        replace H := ifP H; obtain ⟨c15, H⟩ := H
        have c15b0 := decide_eq_true c15
        clear c15
        replace H := bE H; obtain ⟨⟨t107, t108, t109, t110⟩, A16, H⟩ := H
        try dsimp only at H
        go_wp2_with (first | (refine goesM 43 30 Tryz.func43 #[.int .i64 ((rd_T140 l0 a2).f1), .int .i64 1, .int .i64 (l1.length : Int)] ?_; refine (spec_l1In.calls ((rd_T140 l0 a2).f1) 1 (l1.length : Int) true _ A11.out).mono ?_; rintro e w' ⟨rfl, ⟨nd, rfl⟩⟩; refine ⟨_, rfl, ?_⟩; have pz2 : 0 ≤ ((ji13) : Int) := of_decide_eq_true (by first | (with_reducible assumption) | assumption); have qz2 : (ji13) < (l1.length : Int) := of_decide_eq_true (by first | (with_reducible assumption) | assumption); obtain ⟨adz2, Az1, cz1, Az2, cz2, ez2, hxz4, hxz5, hxz6, hxz7, hxz8, hlz1, hiz1, hlz2, hiz2⟩ := at_T162 HR1.out (ji13) pz2 qz2; cases ez2; have hnz1 : adz2.block ≠ gbz1 := Nat.ne_of_lt (Nat.lt_of_lt_of_le (by have := World.block_lt_of_cell? _ _ hxz4; first | rwa [add_block] at this | exact this) GWz1.out); have hnz2 : adz2.block ≠ gbz1 := Nat.ne_of_lt (Nat.lt_of_lt_of_le (by have := World.block_lt_of_cell? _ _ hxz4; first | rwa [add_block] at this | exact this) GWz1.out); have hnz3 : adz2.block ≠ gbz1 := Nat.ne_of_lt (Nat.lt_of_lt_of_le (by have := World.block_lt_of_cell? _ _ hxz4; first | rwa [add_block] at this | exact this) GWz1.out); replace hxz4 := (HB.out.cell (World.block_lt_of_cell? w _ hxz4)).trans hxz4; replace hxz5 := (HB.out.cell (World.block_lt_of_cell? w _ hxz5)).trans hxz5; replace hxz6 := (HB.out.cell (World.block_lt_of_cell? w _ hxz6)).trans hxz6; replace hxz7 := (HB.out.cell (World.block_lt_of_cell? w _ hxz7)).trans hxz7; replace hxz8 := (HB.out.cell (World.block_lt_of_cell? w _ hxz8)).trans hxz8; have HRz1 := Aside0.mk hiz1; have HCz1 := Aside0.mk hlz1; clear hiz1 hlz1; have HRz2 := Aside0.mk hiz2; have HCz2 := Aside0.mk hlz2; clear hiz2 hlz2; replace hxz4 := (cell_far (p := ⟨gbz1, 0, none⟩) (by first | (rw [add_block]; exact hnz1) | (show (Addr.add _ _).block ≠ _; rw [add_block]; exact hnz1) | exact hnz1) (.int .i64 ((rd_T140 l0 a2).f0))).trans hxz4; replace hxz5 := (cell_far (p := ⟨gbz1, 0, none⟩) (by first | (rw [add_block]; exact hnz1) | (show (Addr.add _ _).block ≠ _; rw [add_block]; exact hnz1) | exact hnz1) (.int .i64 ((rd_T140 l0 a2).f0))).trans hxz5; replace hxz6 := (cell_far (p := ⟨gbz1, 0, none⟩) (by first | (rw [add_block]; exact hnz1) | (show (Addr.add _ _).block ≠ _; rw [add_block]; exact hnz1) | exact hnz1) (.int .i64 ((rd_T140 l0 a2).f0))).trans hxz6; replace hxz7 := (cell_far (p := ⟨gbz1, 0, none⟩) (by first | (rw [add_block]; exact hnz1) | (show (Addr.add _ _).block ≠ _; rw [add_block]; exact hnz1) | exact hnz1) (.int .i64 ((rd_T140 l0 a2).f0))).trans hxz7; replace hxz8 := (cell_far (p := ⟨gbz1, 0, none⟩) (by first | (rw [add_block]; exact hnz1) | (show (Addr.add _ _).block ≠ _; rw [add_block]; exact hnz1) | exact hnz1) (.int .i64 ((rd_T140 l0 a2).f0))).trans hxz8; replace hxz4 := (cell_far (p := ⟨gbz1, 1, none⟩) (by first | (rw [add_block]; exact hnz2) | (show (Addr.add _ _).block ≠ _; rw [add_block]; exact hnz2) | exact hnz2) (.int .i64 ((rd_T140 l0 a2).f1))).trans hxz4; replace hxz5 := (cell_far (p := ⟨gbz1, 1, none⟩) (by first | (rw [add_block]; exact hnz2) | (show (Addr.add _ _).block ≠ _; rw [add_block]; exact hnz2) | exact hnz2) (.int .i64 ((rd_T140 l0 a2).f1))).trans hxz5; replace hxz6 := (cell_far (p := ⟨gbz1, 1, none⟩) (by first | (rw [add_block]; exact hnz2) | (show (Addr.add _ _).block ≠ _; rw [add_block]; exact hnz2) | exact hnz2) (.int .i64 ((rd_T140 l0 a2).f1))).trans hxz6; replace hxz7 := (cell_far (p := ⟨gbz1, 1, none⟩) (by first | (rw [add_block]; exact hnz2) | (show (Addr.add _ _).block ≠ _; rw [add_block]; exact hnz2) | exact hnz2) (.int .i64 ((rd_T140 l0 a2).f1))).trans hxz7; replace hxz8 := (cell_far (p := ⟨gbz1, 1, none⟩) (by first | (rw [add_block]; exact hnz2) | (show (Addr.add _ _).block ≠ _; rw [add_block]; exact hnz2) | exact hnz2) (.int .i64 ((rd_T140 l0 a2).f1))).trans hxz8; replace hxz4 := (cell_far (p := ⟨gbz1, 2, none⟩) (by first | (rw [add_block]; exact hnz3) | (show (Addr.add _ _).block ≠ _; rw [add_block]; exact hnz3) | exact hnz3) (.int .i64 ((rd_T140 l0 a2).f2))).trans hxz4; replace hxz5 := (cell_far (p := ⟨gbz1, 2, none⟩) (by first | (rw [add_block]; exact hnz3) | (show (Addr.add _ _).block ≠ _; rw [add_block]; exact hnz3) | exact hnz3) (.int .i64 ((rd_T140 l0 a2).f2))).trans hxz5; replace hxz6 := (cell_far (p := ⟨gbz1, 2, none⟩) (by first | (rw [add_block]; exact hnz3) | (show (Addr.add _ _).block ≠ _; rw [add_block]; exact hnz3) | exact hnz3) (.int .i64 ((rd_T140 l0 a2).f2))).trans hxz6; replace hxz7 := (cell_far (p := ⟨gbz1, 2, none⟩) (by first | (rw [add_block]; exact hnz3) | (show (Addr.add _ _).block ≠ _; rw [add_block]; exact hnz3) | exact hnz3) (.int .i64 ((rd_T140 l0 a2).f2))).trans hxz7; replace hxz8 := (cell_far (p := ⟨gbz1, 2, none⟩) (by first | (rw [add_block]; exact hnz3) | (show (Addr.add _ _).block ≠ _; rw [add_block]; exact hnz3) | exact hnz3) (.int .i64 ((rd_T140 l0 a2).f2))).trans hxz8; clear hnz1; clear hnz2; clear hnz3; replace pz2 := eq_true pz2; replace qz2 := eq_true qz2) | (refine boxE 8 #[.int .i64 0, .int .i64 0, .slice none 0 0, .int .i64 0, .slice none 0 0] 162 ?_; intro gbz2 hg wz2 hbox hb; have BKz2 := Aside0.mk (hbox); have GWz2 := Aside0.mk (gX' hg (hX HB.out)); have GEz2 := Aside0.mk (gX' hg (hX HB.out)); have NBz1 := Aside0.mk (gL hg (bP BKz1.out)); have NBz2 := Aside0.mk (gG hg (bP BKz1.out)); replace BKz1 := Aside0.mk (blk_below (g := gbz1) (o := .cells #[.int .i64 ((rd_T140 l0 a2).f0), .int .i64 ((rd_T140 l0 a2).f1), .int .i64 ((rd_T140 l0 a2).f2)] 140 (0, 0)) (bP BKz1.out) hb); replace HB := Aside0.mk (below_step (hX HB.out) hb); clear hb hbox hg; have hnbz1 := NBz2.out; have hncz1 := NBz1.out; obtain ⟨hczz4, hczz5, hczz6, hczz7, hczz8, hfzz4, hfzz5, hfzz6, hfzz7, hfzz8⟩ := cZ5 BKz2.out) | ((with_reducible refine gate_callee (f := 158) rfl ?_); refine goesL_ (some 41) rfl rfl Tryz.func158 (by kernel_rfl) rfl #[.agg #[.int .i64 ((rd_T162 l1 (ji13)).f0), .int .i64 ((rd_T162 l1 (ji13)).f1), .slice Az1 ((rd_T162 l1 (ji13)).f2).length cz1, .int .i64 ((rd_T162 l1 (ji13)).f3.f0), .slice Az2 ((rd_T162 l1 (ji13)).f3.f1).length cz2], .int .i64 a2] rfl (by (try simp only [List.map_toArray, List.map_cons, List.map_nil]); first | done | (simp only [hji13]; rfl) | rfl | (simp only [List.length_drop, List.length_take]; rfl)) ?_; (with_reducible refine (spec_Entries.calls k ((rd_T162 l1 (ji13)).f0) ((rd_T162 l1 (ji13)).f1) _ _ ((rd_T162 l1 (ji13)).f2) ((rd_T162 l1 (ji13)).f3.f0) _ _ ((rd_T162 l1 (ji13)).f3.f1) a2 t107 t108 t109 t110 _ ?side1 ?side2 ?side3 ?side4 A16.out).mono ?_); (case side1 => exact Kd.C_below HRz1.out (hX HB.out)); (case side2 => exact HCz1.out); (case side3 => exact Kd.C_below HRz2.out (hX HB.out)); (case side4 => exact HCz2.out); rintro e wz3 ⟨rfl, hb⟩; refine ⟨_, rfl, ?_⟩; replace BKz1 := Aside0.mk (blk_below (bF BKz1.out) hb); replace BKz2 := Aside0.mk (blk_below (g := gbz2) (o := .cells #[.int .i64 ((rd_T162 l1 (ji13)).f0), .int .i64 ((rd_T162 l1 (ji13)).f1), .slice Az1 ((rd_T162 l1 (ji13)).f2).length cz1, .int .i64 ((rd_T162 l1 (ji13)).f3.f0), .slice Az2 ((rd_T162 l1 (ji13)).f3.f1).length cz2] 162 (0, 0)) (bP BKz2.out) hb); replace HB := Aside0.mk (below_step (hX HB.out) hb); clear hb) | (refine boxE 9 #[.int .i64 0, .int .i64 0, .int .i64 0] 165 ?_; intro gbz3 hg wz4 hbox hb; have BKz3 := Aside0.mk (hbox); have GWz3 := Aside0.mk (gX' hg (hX HB.out)); have GEz3 := Aside0.mk (gX' hg (hX HB.out)); have NBz3 := Aside0.mk (gL hg (bX BKz1.out)); have NBz4 := Aside0.mk (gG hg (bX BKz1.out)); have NBz5 := Aside0.mk ((by rw [hg]; exact Nat.ne_of_lt (blk_lt (g := gbz2) (o := .cells #[.int .i64 ((rd_T162 l1 (ji13)).f0), .int .i64 ((rd_T162 l1 (ji13)).f1), .slice Az1 ((rd_T162 l1 (ji13)).f2).length cz1, .int .i64 ((rd_T162 l1 (ji13)).f3.f0), .slice Az2 ((rd_T162 l1 (ji13)).f3.f1).length cz2] 162 (0, 0)) (bX BKz2.out)) : gbz2 ≠ gbz3)); have NBz6 := Aside0.mk ((by rw [hg]; exact Nat.ne_of_gt (blk_lt (g := gbz2) (o := .cells #[.int .i64 ((rd_T162 l1 (ji13)).f0), .int .i64 ((rd_T162 l1 (ji13)).f1), .slice Az1 ((rd_T162 l1 (ji13)).f2).length cz1, .int .i64 ((rd_T162 l1 (ji13)).f3.f0), .slice Az2 ((rd_T162 l1 (ji13)).f3.f1).length cz2] 162 (0, 0)) (bX BKz2.out)) : gbz3 ≠ gbz2)); replace BKz1 := Aside0.mk (blk_below (bX BKz1.out) hb); replace BKz2 := Aside0.mk (blk_below (g := gbz2) (o := .cells #[.int .i64 ((rd_T162 l1 (ji13)).f0), .int .i64 ((rd_T162 l1 (ji13)).f1), .slice Az1 ((rd_T162 l1 (ji13)).f2).length cz1, .int .i64 ((rd_T162 l1 (ji13)).f3.f0), .slice Az2 ((rd_T162 l1 (ji13)).f3.f1).length cz2] 162 (0, 0)) (bX BKz2.out) hb); replace HB := Aside0.mk (below_step (hX HB.out) hb); clear hb hbox hg; have hnbz2 := NBz4.out; have hncz2 := NBz3.out; have hnbz3 := NBz6.out; have hncz3 := NBz5.out; obtain ⟨hczz9, hczz10, hczz11, hfzz9, hfzz10, hfzz11⟩ := cZ3 BKz3.out; obtain ⟨hczz12, hczz13, hczz14, hczz15, hczz16, hfzz12, hfzz13, hfzz14, hfzz15, hfzz16⟩ := cZ5 BKz2.out; obtain ⟨hczz17, hczz18, hczz19, hfzz17, hfzz18, hfzz19⟩ := cZ3 BKz1.out; refine Stop.out ?_))
        refine ⟨?_⟩
        by_cases c17 : ((rd_T162 l1 (ji13)).f0) = ((rd_T140 l0 a2).f2)
        · rw [if_pos c17] at H
          obtain ⟨c17b0, c17b1⟩ := eqT c17
          clear c17
          by_cases c18 : ((rd_T162 l1 (ji13)).f1) = 2
          · rw [if_pos c18] at H
            obtain ⟨c18b0, c18b1⟩ := eqT c18
            clear c18
            obtain rfl := Option.some.inj H
            go_wp2
            go_ret
            exact ⟨by first | rfl | (simp [errW_none, errW_some] <;> rfl) | (simp only [← hji13]; first | rfl | (simp [errW_none, errW_some] <;> rfl)) | (simp [*, errW_none, errW_some] <;> rfl), (hX HB.out)⟩
          · rw [if_neg c18] at H
            obtain ⟨c18b0, c18b1⟩ := eqF c18
            obtain rfl := Option.some.inj H
            go_wp2
            go_ret
            exact ⟨by first | rfl | (simp [errW_none, errW_some] <;> rfl) | (simp only [← hji13]; first | rfl | (simp [errW_none, errW_some] <;> rfl)) | (simp [*, errW_none, errW_some] <;> rfl), (hX HB.out)⟩
        · rw [if_neg c17] at H
          obtain ⟨c17b0, c17b1⟩ := eqF c17
          obtain rfl := Option.some.inj H
          go_wp2
          go_ret
          exact ⟨by first | rfl | (simp [errW_none, errW_some] <;> rfl) | (simp only [← hji13]; first | rfl | (simp [errW_none, errW_some] <;> rfl)) | (simp [*, errW_none, errW_some] <;> rfl), (hX HB.out)⟩
      · replace c12 := Bool.eq_false_iff.mpr c12
        subst c12
        rw [if_neg nft] at H
        obtain rfl := Option.some.inj H
        go_wp2_with (first | (refine goesM 43 30 Tryz.func43 #[.int .i64 ((rd_T140 l0 a2).f1), .int .i64 1, .int .i64 (l1.length : Int)] ?_; refine (spec_l1In.calls ((rd_T140 l0 a2).f1) 1 (l1.length : Int) false _ A11.out).mono ?_; rintro e w' ⟨rfl, ⟨nd, rfl⟩⟩; refine ⟨_, rfl, ?_⟩))
        go_ret
        exact ⟨rE, (hX HB.out)⟩
  · replace c5 := Bool.eq_false_iff.mpr c5
    subst c5
    rw [if_neg nft] at H
    obtain rfl := Option.some.inj H
    go_wp2_with (first | (refine goesM 43 15 Tryz.func43 #[.int .i64 a2, .int .i64 0, .int .i64 (wrap64 ((l0.length : Int) - 1))] ?_; refine (spec_l1In.calls a2 0 (wrap64 ((l0.length : Int) - 1)) false _ A4.out).mono ?_; rintro e w' ⟨rfl, ⟨nd, rfl⟩⟩; refine ⟨_, rfl, ?_⟩))
    go_ret
    exact ⟨rE, (hX HB.out)⟩
end Go.Proofs.YtmljebgideecjaaGreat.P
namespace Go.Proofs.YtmljebgideecjaaGreat.P
open Go.Proofs.YtmljebgideecjaaGreatZ Go.RowKit Go.Proofs.YtmljebgideecjaaGreatW.PrintWords Go.Proofs.YtmljebgideecjaaGreatW.PrintLast Go.Proofs.YtmljebgideecjaaGreatW.PrintMore
attribute [local go_sem] max2_int min2_int max_two min_two max_three min_three max_four min_four   -- for this text's walks alone
set_option linter.unusedVariables false
set_option linter.unusedSimpArgs false
def spec_Meaning.l0 : Nat → List (S140) → List (S162) → List Int → Int → Option (List Int)
  | 0, _, _, _, _ => none
  | k + 1, x0, x1, x5, x6 => if x6 < (x0.length : Int) then ((spec_ValueAt.f k x0 x1 x6).bind fun t104 => (if x5.length < 17592186044416 then (spec_Meaning.l0 k x0 x1 (x5 ++ [t104]) (wrap64 (x6 + 1))) else (none))) else (some x5)
def spec_Meaning.f (k : Nat) (l0 : List (S140)) (l1 : List (S162)) : Option (List Int) := spec_Meaning.l0 k l0 l1 (([] : List Int)) 0
set_option maxHeartbeats 8000000 in
set_option maxRecDepth 100000 in
theorem spec_Meaning.calls (k : Nat) (A0 : Option Addr) (c0 : Nat) (l0 : List (S140)) (A1 : Option Addr) (c1 : Nat) (l1 : List (S162)) (r : List Int) (w : World) (hr0 : Kd.C k140 w A0 l0.length l0) (hc0 : l0.length ≤ c0) (hr1 : Kd.C k162 w A1 l1.length l1) (hc1 : l1.length ≤ c1) (h : spec_Meaning.f k l0 l1 = some r) :
    Calls Tryz.prog 56 #[.slice A0 l0.length c0, .slice A1 l1.length c1] w fun e w' => ∃ v0_ : Value, e = .returned (v0_) ∧ Kd.R (Kd.int .i64) 3 w' w.heap.size (fun _ => True) v0_ r ∧ Below w.heap.size w w' := by
  have HR0 := Aside0.mk hr0
  have HC0 := Aside0.mk hc0
  clear hr0 hc0
  have HR1 := Aside0.mk hr1
  have HC1 := Aside0.mk hc1
  clear hr1 hc1
  have HB := Aside0.mk (Below.refl w.heap.size w)
  have H := h
  unfold spec_Meaning.f at H
  clear h
  obtain ⟨y101, hy101⟩ : ∃ y_ : List Int, y_ = (([] : List Int)) := ⟨_, rfl⟩
  replace H : (spec_Meaning.l0 k l0 l1 y101 0) = some r := yH H hy101
  have Ny101 := Aside0.mk hy101
  clear hy101
  have H' := Aside0.mk H
  clear H
  go_enter Tryz.func56, Tryz.ntmps56
  go_wp2_with (first | ((with_reducible refine gate_dst (N := 7) rfl ?_); refine Kd.R_lit (Kd.int .i64) _ 3 ?hg (N := 7) ?hd (xs := ([] : List Int)) (inner := []) (ok := fun _ => True) (okp := fun _ => True) ?hr ?hp (fun _ hk => hk) trivial (Below.refl _ _) (Nat.le_refl _) (by simp) ?_; (case hd => rfl); (case hg => rfl); (case hr => first | (go_simp; done) | (go_simp; rfl)); (case hp => exact (Reps.none _ _)); intro vz1 wz1 hoz1 hb hg_ hnew_; clear hg_ hnew_; (first | rw [← Ny101.out] at hoz1 | (simp only [Int.reduceToNat] at hoz1; rw [← Ny101.out] at hoz1)); have HOz1 := Aside0.mk (Kd.R_lower hoz1 (below_size (hX HB.out))); replace HB := Aside0.mk (below_step (hX HB.out) hb); clear hb hoz1))
  go_loopg [5, 6] k (fun kq v5 v6 w' => ∃ (x5_1 : List Int) (x6_1 : Int), v6 = .int .i64 x6_1 ∧ Aside0 (spec_Meaning.l0 kq l0 l1 x5_1 x6_1 = some r) ∧ Aside0 (kq ≤ k) ∧ Aside0 (Kd.R (Kd.int .i64) 3 w' w.heap.size (fun _ => True) v5 x5_1) ∧ Aside0 (Below w.heap.size w w'))
  case atStart => exact ⟨(y101), (0), rS, H', ⟨Nat.le_refl _⟩, ⟨(rX HOz1.out)⟩, ⟨(hX HB.out)⟩⟩
  case round =>
    clear H'
    try clear c1
    try clear p2
    obtain ⟨x5_1, x6_1, rfl, HA, HKy1, HO_y1, HB⟩ := hrel
    cases gk with
    | zero => exact absurd HA.out (by simp [spec_Meaning.l0])
    | succ k1 =>
      have H := HA.out
      clear HA
      simp only [spec_Meaning.l0] at H
      by_cases c5 : x6_1 < (l0.length : Int)
      · rw [if_pos c5] at H
        have c5b0 := decide_eq_true c5
        clear c5
        replace H := bE H; obtain ⟨t104, A6, H⟩ := H
        replace H := ifP H; obtain ⟨c7, H⟩ := H
        have LMc7 := Aside0.mk c7
        clear c7
        obtain ⟨y105, hy105⟩ : ∃ y_ : List Int, y_ = (x5_1 ++ [t104]) := ⟨_, rfl⟩
        replace H : (spec_Meaning.l0 k1 l0 l1 y105 (wrap64 (x6_1 + 1))) = some r := yH H hy105
        have Ny105 := Aside0.mk hy105
        clear hy105
        have H' := Aside0.mk H
        clear H
        go_wp2_with (first | (refine goesM 116 18 Tryz.func116 #[.slice A0 l0.length c0, .slice A1 l1.length c1, .int .i64 x6_1] ?_; refine (spec_ValueAt.calls k1 _ _ l0 _ _ l1 x6_1 t104 _ (cC HR0.out HB.out) HC0.out (cC HR1.out HB.out) HC1.out A6.out).mono ?_; rintro e wx1 ⟨rfl, hb⟩; refine ⟨_, rfl, ?_⟩; replace HO_y1 := Aside0.mk (Kd.R_below (rX HO_y1.out) hb); replace HB := Aside0.mk (below_step (hX HB.out) hb); clear hb) | ((with_reducible refine gate_builtin (b := .append) (xs := #[.tmp 14, .tmp 19]) rfl ?_); at_builtin; refine Kd.R_append (Kd.int .i64) (w0 := w) w.heap.size rfl (.tmp 14) (.tmp 19) 28 3 (.int .i64 0) 8 rfl Tryz.underlying28 info3 rfl (by decide) (by omega) u5 x5_1 t104 [.int .i64 t104] (fun _ => True) (fun _ => False) rfl rfl ?aP (fun _ hk => hk.elim) ?aF ?aO ?aB ?aS ?aL ?_; (case aP => exact rfl); (case aB => exact (hX HB.out)); (case aF => exact (fun _ _ => trivial)); (case aO => exact (rX HO_y1.out)); (case aS => exact (below_size (hX HB.out))); (case aL => have := LMc7.out; omega); intro vx1 wx2 ho hb hg hat; rw [← Ny105.out] at ho; have HOx1 := Aside0.mk (ho); replace HB := Aside0.mk (hb); clear HO_y1; clear ho hb hg hat))
        go_roundg k1
        case measure => have := HKy1.out; omega
        case rel => exact ⟨(y105), (wrap64 (x6_1 + 1)), rS, H', ⟨by have := HKy1.out; omega⟩, ⟨(rX HOx1.out)⟩, ⟨(hX HB.out)⟩⟩
      · rw [if_neg c5] at H
        have c5b0 := decide_eq_false c5
        clear c5
        obtain rfl := Option.some.inj H
        go_wp2
        go_ret
        exact ⟨_, rE, (rX HO_y1.out), (hX HB.out)⟩
end Go.Proofs.YtmljebgideecjaaGreat.P
namespace Go.Proofs.YtmljebgideecjaaGreatZ
open Go.RowKit Go.Proofs.YtmljebgideecjaaGreatW.PrintWords Go.Proofs.YtmljebgideecjaaGreatW.PrintLast
theorem now_ {P : Program} {ops : Array Oper} {Q : Exit → Act → World → Prop} {md : Region.Mode} {S : World → Prop} {ds : List Nat} {i : Nat} {N : Option Tmp} {oi : Oper} {v : Value} {fuel : Nat} {l : Array Bool} {a : Act} {w : World} (l' : Array Bool) (hi : ops[i]? = some oi) (hN : oi.dst = N)
    (hc : readyB md ops l l' i = true) (hd : i ∉ ds) (hg : oi.guard = none) (hrun : (execOp a.eval oi).run P w = .ok (.value v) w) (hS : S w) {a' : Act} (ha : a.put N v = a')
    (h : wpAnyLast P md ops Q S ds fuel l' a' w) : wpAnyLast P md ops Q S ds (fuel + 1) l a w := by
  subst ha
  refine one_ l' hi hN hc hd (fun K hK => ?_)
  subst hN
  have hk := hK.out _ _ hS (fun _ => h)
  have hw : Region.wanted oi (yielded ops a.tmps) = true := by simp [Region.wanted, hg]
  rw [if_pos hw]
  unfold Oper.wp
  rw [hrun]
  exact hk
end Go.Proofs.YtmljebgideecjaaGreatZ
namespace Go.Proofs.YtmljebgideecjaaGreat.P
open Go.Proofs.YtmljebgideecjaaGreatZ Go.RowKit Go.Proofs.YtmljebgideecjaaGreatW.PrintWords Go.Proofs.YtmljebgideecjaaGreatW.PrintLast Go.Proofs.YtmljebgideecjaaGreatW.PrintMore
attribute [local go_sem] max2_int min2_int max_two min_two max_three min_three max_four min_four   -- for this text's walks alone
set_option linter.unusedVariables false
set_option linter.unusedSimpArgs false
def spec_ValOk.f (a0 : Int) : Option (Bool) := (spec_l1In.f a0 1 6).bind fun t101 => (some t101)
set_option maxHeartbeats 8000000 in
set_option maxRecDepth 100000 in
theorem spec_ValOk.calls (a0 : Int) (r : Bool) (w : World) (h : spec_ValOk.f a0 = some r) :
    Calls Tryz.prog 159 #[.int .i64 a0] w fun e w' => e = .returned (.bool r) ∧ Drawn0 w w' := by
  have H := h
  unfold spec_ValOk.f at H
  clear h
  replace H := bE H; obtain ⟨t101, A2, H⟩ := H
  obtain rfl := Option.some.inj H
  go_enter Tryz.func159, Tryz.ntmps159
  go_wp2_with (first | (refine goesM 43 4 Tryz.func43 #[.int .i64 a0, .int .i64 1, .int .i64 6] ?_; refine (spec_l1In.calls a0 1 6 t101 _ A2.out).mono ?_; rintro e w' ⟨rfl, ⟨nd, rfl⟩⟩; refine ⟨_, rfl, ?_⟩))
  go_ret
  exact ⟨by first | rfl | (simp; done) | (simp [*]; done), dX⟩
end Go.Proofs.YtmljebgideecjaaGreat.P
namespace Go.Proofs.YtmljebgideecjaaGreat.P
open Go.Proofs.YtmljebgideecjaaGreatZ Go.RowKit Go.Proofs.YtmljebgideecjaaGreatW.PrintWords Go.Proofs.YtmljebgideecjaaGreatW.PrintLast Go.Proofs.YtmljebgideecjaaGreatW.PrintMore
attribute [local go_sem] max2_int min2_int max_two min_two max_three min_three max_four min_four   -- for this text's walks alone
set_option linter.unusedVariables false
set_option linter.unusedSimpArgs false
def spec_l4Key.f (a0 : Int) : Option (Bool) := (spec_l1In.f a0 1 4).bind fun t101 => (some t101)
set_option maxHeartbeats 8000000 in
set_option maxRecDepth 100000 in
theorem spec_l4Key.calls (a0 : Int) (r : Bool) (w : World) (h : spec_l4Key.f a0 = some r) :
    Calls Tryz.prog 192 #[.int .i64 a0] w fun e w' => e = .returned (.bool r) ∧ Drawn0 w w' := by
  have H := h
  unfold spec_l4Key.f at H
  clear h
  replace H := bE H; obtain ⟨t101, A2, H⟩ := H
  obtain rfl := Option.some.inj H
  go_enter Tryz.func192, Tryz.ntmps192
  go_wp2_with (first | (refine goesM 43 4 Tryz.func43 #[.int .i64 a0, .int .i64 1, .int .i64 4] ?_; refine (spec_l1In.calls a0 1 4 t101 _ A2.out).mono ?_; rintro e w' ⟨rfl, ⟨nd, rfl⟩⟩; refine ⟨_, rfl, ?_⟩))
  go_ret
  exact ⟨by first | rfl | (simp; done) | (simp [*]; done), dX⟩
end Go.Proofs.YtmljebgideecjaaGreat.P
namespace Go.Proofs.YtmljebgideecjaaGreat.P
open Go.Proofs.YtmljebgideecjaaGreatZ Go.RowKit Go.Proofs.YtmljebgideecjaaGreatW.PrintWords Go.Proofs.YtmljebgideecjaaGreatW.PrintLast Go.Proofs.YtmljebgideecjaaGreatW.PrintMore
attribute [local go_sem] max2_int min2_int max_two min_two max_three min_three max_four min_four   -- for this text's walks alone
set_option linter.unusedVariables false
set_option linter.unusedSimpArgs false
def spec_l4Val.f (a0 : Int) : Option (Bool) := if a0 = 1 then (some true) else (if a0 = 2 then (some true) else (if a0 = 5 then (some true) else (some (a0 == 10))))
set_option maxHeartbeats 8000000 in
set_option maxRecDepth 100000 in
theorem spec_l4Val.calls (a0 : Int) (r : Bool) (w : World) (h : spec_l4Val.f a0 = some r) :
    Calls Tryz.prog 193 #[.int .i64 a0] w fun e w' => e = .returned (.bool r) ∧ Drawn0 w w' := by
  have H := h
  unfold spec_l4Val.f at H
  clear h
  go_enter Tryz.func193, Tryz.ntmps193
  by_cases c2 : a0 = 1
  · rw [if_pos c2] at H
    obtain ⟨c2b0, c2b1⟩ := eqT c2
    clear c2
    obtain rfl := Option.some.inj H
    go_wp2
    go_ret
    exact ⟨by first | rfl | (simp; done) | (simp [*]; done), dX⟩
  · rw [if_neg c2] at H
    obtain ⟨c2b0, c2b1⟩ := eqF c2
    by_cases c3 : a0 = 2
    · rw [if_pos c3] at H
      obtain ⟨c3b0, c3b1⟩ := eqT c3
      clear c3
      obtain rfl := Option.some.inj H
      go_wp2
      go_ret
      exact ⟨by first | rfl | (simp; done) | (simp [*]; done), dX⟩
    · rw [if_neg c3] at H
      obtain ⟨c3b0, c3b1⟩ := eqF c3
      by_cases c4 : a0 = 5
      · rw [if_pos c4] at H
        obtain ⟨c4b0, c4b1⟩ := eqT c4
        clear c4
        obtain rfl := Option.some.inj H
        go_wp2
        go_ret
        exact ⟨by first | rfl | (simp; done) | (simp [*]; done), dX⟩
      · rw [if_neg c4] at H
        obtain ⟨c4b0, c4b1⟩ := eqF c4
        obtain rfl := Option.some.inj H
        go_wp2
        go_ret
        exact ⟨by first | rfl | (simp; done) | (simp [*]; done), dX⟩
end Go.Proofs.YtmljebgideecjaaGreat.P
namespace Go.Proofs.YtmljebgideecjaaGreat.P
open Go.Proofs.YtmljebgideecjaaGreatZ Go.RowKit Go.Proofs.YtmljebgideecjaaGreatW.PrintWords Go.Proofs.YtmljebgideecjaaGreatW.PrintLast Go.Proofs.YtmljebgideecjaaGreatW.PrintMore
attribute [local go_sem] max2_int min2_int max_two min_two max_three min_three max_four min_four   -- for this text's walks alone
set_option linter.unusedVariables false
set_option linter.unusedSimpArgs false
def spec_KeyOk.f (a0 : Int) : Option (Bool) := (spec_l1In.f a0 0 3).bind fun t101 => (some t101)
set_option maxHeartbeats 8000000 in
set_option maxRecDepth 100000 in
theorem spec_KeyOk.calls (a0 : Int) (r : Bool) (w : World) (h : spec_KeyOk.f a0 = some r) :
    Calls Tryz.prog 198 #[.int .i64 a0] w fun e w' => e = .returned (.bool r) ∧ Drawn0 w w' := by
  have H := h
  unfold spec_KeyOk.f at H
  clear h
  replace H := bE H; obtain ⟨t101, A2, H⟩ := H
  obtain rfl := Option.some.inj H
  go_enter Tryz.func198, Tryz.ntmps198
  go_wp2_with (first | (refine goesM 43 4 Tryz.func43 #[.int .i64 a0, .int .i64 0, .int .i64 3] ?_; refine (spec_l1In.calls a0 0 3 t101 _ A2.out).mono ?_; rintro e w' ⟨rfl, ⟨nd, rfl⟩⟩; refine ⟨_, rfl, ?_⟩))
  go_ret
  exact ⟨by first | rfl | (simp; done) | (simp [*]; done), dX⟩
end Go.Proofs.YtmljebgideecjaaGreat.P
namespace Go.Proofs.YtmljebgideecjaaGreat.P
open Go.Proofs.YtmljebgideecjaaGreatZ Go.RowKit Go.Proofs.YtmljebgideecjaaGreatW.PrintWords Go.Proofs.YtmljebgideecjaaGreatW.PrintLast Go.Proofs.YtmljebgideecjaaGreatW.PrintMore
attribute [local go_sem] max2_int min2_int max_two min_two max_three min_three max_four min_four   -- for this text's walks alone
set_option linter.unusedVariables false
set_option linter.unusedSimpArgs false
mutual
def spec_OpOk.j0 : Nat → Bool → Int → Int → Int → Option (Bool)
  | 0, _, _, _, _ => none
  | k + 1, x3, x102000, x102001, x102002 => if x102000 = 6 then ((spec_l1In.f x102001 0 2).bind fun t105 => (spec_OpOk.j1 k t105 x102000 x102001 x102002)) else (spec_OpOk.j1 k x3 x102000 x102001 x102002)
def spec_OpOk.j1 : Nat → Bool → Int → Int → Int → Option (Bool)
  | 0, _, _, _, _ => none
  | k + 1, x3, x102000, x102001, x102002 => (spec_l4Val.f x102000).bind fun t106 => (if t106 = true then (if x3 = true then ((spec_ValOk.f x102002).bind fun t107 => (some t107)) else (some false)) else (if x3 = true then (some (x102002 == 0)) else (some false)))
end
def spec_OpOk.f (k : Nat) (a0_0 : Int) (a0_1 : Int) (a0_2 : Int) : Option (Bool) := (spec_l1In.f a0_0 1 10).bind fun t102 => (if t102 = true then ((spec_l4Key.f a0_0).bind fun t103 => (if t103 = true then ((spec_KeyOk.f a0_1).bind fun t104 => (spec_OpOk.j0 k t104 a0_0 a0_1 a0_2)) else (spec_OpOk.j0 k (a0_1 == 0) a0_0 a0_1 a0_2))) else (some false))
set_option maxHeartbeats 8000000 in
set_option maxRecDepth 100000 in
theorem spec_OpOk.calls (k : Nat) (a0_0 : Int) (a0_1 : Int) (a0_2 : Int) (r : Bool) (w : World) (h : spec_OpOk.f k a0_0 a0_1 a0_2 = some r) :
    Calls Tryz.prog 138 #[.agg #[.int .i64 a0_0, .int .i64 a0_1, .int .i64 a0_2]] w fun e w' => e = .returned (.bool r) ∧ Below w.heap.size w w' := by
  have hu69 := Tryz.underlying69
  have HB := Aside0.mk (Below.refl w.heap.size w)
  have H := h
  unfold spec_OpOk.f at H
  clear h
  replace H := bE H; obtain ⟨t102, A2, H⟩ := H
  go_enter Tryz.func138, Tryz.ntmps138
  by_cases c3 : t102 = true
  · subst c3
    rw [if_pos rfl] at H
    replace H := bE H; obtain ⟨t103, A4, H⟩ := H
    have HC5 := Aside0.mk H
    clear H
    go_upto_if 13 with (first | ((with_reducible refine gate_dst (N := 1) rfl ?_); refine boxE 1 #[.int .i64 a0_0, .int .i64 a0_1, .int .i64 a0_2] 69 ?_; intro gbz1 hg wz1 hbox hb; have BKz1 := Aside0.mk (hbox); have GWz1 := Aside0.mk (gX' hg (hX HB.out)); have GEz1 := Aside0.mk (gX' hg (hX HB.out)); replace HB := Aside0.mk (below_step (hX HB.out) hb); clear hb hbox hg; obtain ⟨hczz1, hczz2, hczz3, hfzz1, hfzz2, hfzz3⟩ := cZ3 BKz1.out) | ((with_reducible refine gate_callee (f := 43) rfl ?_); refine goesM 43 6 Tryz.func43 #[.int .i64 a0_0, .int .i64 1, .int .i64 10] ?_; refine (spec_l1In.calls a0_0 1 10 true _ A2.out).mono ?_; rintro e w' ⟨rfl, ⟨nd, rfl⟩⟩; refine ⟨_, rfl, ?_⟩) | ((with_reducible refine gate_callee (f := 192) rfl ?_); refine goesM 192 13 Tryz.func192 #[.int .i64 a0_0] ?_; refine (spec_l4Key.calls a0_0 t103 _ A4.out).mono ?_; rintro e w' ⟨rfl, ⟨nd, rfl⟩⟩; refine ⟨_, rfl, ?_⟩))
    (try simp only [Act.put, List.setIfInBounds_toArray, List.set_cons_zero, List.set_cons_succ])
    go_cut [3] (fun vz1 wc => ∃ (kq : Nat) (x3_4 : Bool), vz1 = .bool x3_4 ∧ Aside0 (spec_OpOk.j0 kq x3_4 a0_0 a0_1 a0_2 = some r) ∧ Aside0 (kq ≤ k) ∧ Aside0 (wc.heap[gbz1]? = some (.cells #[.int .i64 a0_0, .int .i64 a0_1, .int .i64 a0_2] 69 (0, 0))) ∧ Aside0 (Below w.heap.size w wc))
    case first =>
      have H := HC5.out
      clear HC5
      by_cases c8 : t103 = true
      · subst c8
        rw [if_pos rfl] at H
        replace H := bE H; obtain ⟨t104, A9, H⟩ := H
        have H' := Aside0.mk H
        clear H
        obtain ⟨hczy1, hczy2, hczy3, hfzy1, hfzy2, hfzy3⟩ := cZ3 BKz1.out
        go_wp2_with (first | (refine goesM 198 16 Tryz.func198 #[.int .i64 a0_1] ?_; refine (spec_KeyOk.calls a0_1 t104 _ A9.out).mono ?_; rintro e w' ⟨rfl, ⟨nd, rfl⟩⟩; refine ⟨_, rfl, ?_⟩))
        go_meet
        case rel => exact ⟨_, (t104), rS, H', ⟨by first | omega | exact Nat.le_refl _⟩, ⟨(bX BKz1.out)⟩, ⟨(hX HB.out)⟩⟩
      · replace c8 := Bool.eq_false_iff.mpr c8
        subst c8
        rw [if_neg nft] at H
        have H' := Aside0.mk H
        clear H
        go_wp2
        go_meet
        case rel => exact ⟨_, ((a0_1 == 0)), rS, H', ⟨by first | omega | exact Nat.le_refl _⟩, ⟨(bX BKz1.out)⟩, ⟨(hX HB.out)⟩⟩
    case rest =>
      clear HC5
      try clear c1
      try clear p2
      try clear c3
      try clear c4
      try clear c8
      try clear hcz10_0
      try clear hcz10_1
      try clear hcz10_2
      try clear hczz1
      try clear hczz2
      try clear hczz3
      try clear hfz10_0
      try clear hfz10_1
      try clear hfz10_2
      try clear hfzz1
      try clear hfzz2
      try clear hfzz3
      obtain ⟨kq, x3_4, rfl, HA, HJy1, BKz1, HB⟩ := hcut
      cases kq with
      | zero => exact absurd HA.out (by simp [spec_OpOk.j0])
      | succ kj4 =>
        have H := HA.out
        clear HA
        simp only [spec_OpOk.j0] at H
        have HC11 := Aside0.mk H
        clear H
        obtain ⟨hczx1, hczx2, hczx3, hfzx1, hfzx2, hfzx3⟩ := cZ3 BKz1.out
        go_upto_if 19 with (fail)
        go_cut [3] (fun vz1 wc => ∃ (kq : Nat) (x3_10 : Bool), vz1 = .bool x3_10 ∧ Aside0 (spec_OpOk.j1 kq x3_10 a0_0 a0_1 a0_2 = some r) ∧ Aside0 (kq ≤ kj4) ∧ Aside0 (wc.heap[gbz1]? = some (.cells #[.int .i64 a0_0, .int .i64 a0_1, .int .i64 a0_2] 69 (0, 0))) ∧ Aside0 (Below w.heap.size w wc))
        case first =>
          have H := HC11.out
          clear HC11
          by_cases c13 : a0_0 = 6
          · rw [if_pos c13] at H
            obtain ⟨c13b0, c13b1⟩ := eqT c13
            clear c13
            (first | rw [c13b0] | (simp only [i64_w, i32_w]; rw [c13b0]) | skip)
            replace H := bE H; obtain ⟨t105, A14, H⟩ := H
            have H' := Aside0.mk H
            clear H
            obtain ⟨hczw1, hczw2, hczw3, hfzw1, hfzw2, hfzw3⟩ := cZ3 BKz1.out
            go_wp2_with (first | (refine goesM 43 22 Tryz.func43 #[.int .i64 a0_1, .int .i64 0, .int .i64 2] ?_; refine (spec_l1In.calls a0_1 0 2 t105 _ A14.out).mono ?_; rintro e w' ⟨rfl, ⟨nd, rfl⟩⟩; refine ⟨_, rfl, ?_⟩))
            go_meet
            case rel => exact ⟨_, (t105), rS, H', ⟨by have := HJy1.out; first | omega | exact Nat.le_refl _⟩, ⟨(bX BKz1.out)⟩, ⟨(hX HB.out)⟩⟩
          · rw [if_neg c13] at H
            obtain ⟨c13b0, c13b1⟩ := eqF c13
            (first | rw [c13b0] | (simp only [i64_w, i32_w]; rw [c13b0]) | skip)
            have H' := Aside0.mk H
            clear H
            go_wp2
            go_meet
            case rel => exact ⟨_, (x3_4), rS, H', ⟨by have := HJy1.out; first | omega | exact Nat.le_refl _⟩, ⟨(bX BKz1.out)⟩, ⟨(hX HB.out)⟩⟩
        case rest =>
          clear HC11
          try clear c1
          try clear p2
          try clear c3
          try clear c4
          try clear c8
          try clear c13
          try clear c13b0
          try clear c13b1
          try clear hcz10_0
          try clear hcz10_1
          try clear hcz10_2
          try clear hczx1
          try clear hczx2
          try clear hczx3
          try clear hcz15_0
          try clear hcz15_1
          try clear hcz15_2
          try clear hczz1
          try clear hczz2
          try clear hczz3
          try clear hfz10_0
          try clear hfz10_1
          try clear hfz10_2
          try clear hfzx1
          try clear hfzx2
          try clear hfzx3
          try clear hfz15_0
          try clear hfz15_1
          try clear hfz15_2
          try clear hfzz1
          try clear hfzz2
          try clear hfzz3
          try clear p2
          obtain ⟨kq, x3_10, rfl, HA, HJw1, BKz1, HB⟩ := hcut
          cases kq with
          | zero => exact absurd HA.out (by simp [spec_OpOk.j1])
          | succ kj10 =>
            have H := HA.out
            clear HA
            simp only [spec_OpOk.j1] at H
            replace H := bE H; obtain ⟨t106, A16, H⟩ := H
            by_cases c17 : t106 = true
            · subst c17
              rw [if_pos rfl] at H
              obtain ⟨hczv1, hczv2, hczv3, hfzv1, hfzv2, hfzv3⟩ := cZ3 BKz1.out
              go_wp2_with (first | (refine goesM 193 25 Tryz.func193 #[.int .i64 a0_0] ?_; refine (spec_l4Val.calls a0_0 true _ A16.out).mono ?_; rintro e w' ⟨rfl, ⟨nd, rfl⟩⟩; refine ⟨_, rfl, ?_⟩; refine Stop.out ?_))
              refine ⟨?_⟩
              by_cases c18 : x3_10 = true
              · subst c18
                rw [if_pos rfl] at H
                replace H := bE H; obtain ⟨t107, A19, H⟩ := H
                obtain rfl := Option.some.inj H
                go_wp2_with (first | (go_at_call 159; (with_reducible refine (spec_ValOk.calls a0_2 t107 _ A19.out).mono ?_); rintro e w' ⟨rfl, ⟨nd, rfl⟩⟩))
                go_ret
                exact ⟨rE, (hX HB.out)⟩
              · replace c18 := Bool.eq_false_iff.mpr c18
                subst c18
                rw [if_neg nft] at H
                obtain rfl := Option.some.inj H
                go_wp2
                go_ret
                exact ⟨rE, (hX HB.out)⟩
            · replace c17 := Bool.eq_false_iff.mpr c17
              subst c17
              rw [if_neg nft] at H
              obtain ⟨hczv1, hczv2, hczv3, hfzv1, hfzv2, hfzv3⟩ := cZ3 BKz1.out
              go_wp2_with (first | (refine goesM 193 25 Tryz.func193 #[.int .i64 a0_0] ?_; refine (spec_l4Val.calls a0_0 false _ A16.out).mono ?_; rintro e w' ⟨rfl, ⟨nd, rfl⟩⟩; refine ⟨_, rfl, ?_⟩; refine Stop.out ?_))
              refine ⟨?_⟩
              by_cases c22 : x3_10 = true
              · subst c22
                rw [if_pos rfl] at H
                obtain rfl := Option.some.inj H
                go_wp2
                go_ret
                exact ⟨rE, (hX HB.out)⟩
              · replace c22 := Bool.eq_false_iff.mpr c22
                subst c22
                rw [if_neg nft] at H
                obtain rfl := Option.some.inj H
                go_wp2
                go_ret
                exact ⟨rE, (hX HB.out)⟩
  · replace c3 := Bool.eq_false_iff.mpr c3
    subst c3
    rw [if_neg nft] at H
    obtain rfl := Option.some.inj H
    go_wp2_with (first | (refine boxE 1 #[.int .i64 a0_0, .int .i64 a0_1, .int .i64 a0_2] 69 ?_; intro gbz1 hg wz1 hbox hb; have BKz1 := Aside0.mk (hbox); have GWz1 := Aside0.mk (gX' hg (hX HB.out)); have GEz1 := Aside0.mk (gX' hg (hX HB.out)); replace HB := Aside0.mk (below_step (hX HB.out) hb); clear hb hbox hg; obtain ⟨hczz1, hczz2, hczz3, hfzz1, hfzz2, hfzz3⟩ := cZ3 BKz1.out) | (refine goesM 43 6 Tryz.func43 #[.int .i64 a0_0, .int .i64 1, .int .i64 10] ?_; refine (spec_l1In.calls a0_0 1 10 false _ A2.out).mono ?_; rintro e w' ⟨rfl, ⟨nd, rfl⟩⟩; refine ⟨_, rfl, ?_⟩))
    go_ret
    exact ⟨rE, (hX HB.out)⟩
end Go.Proofs.YtmljebgideecjaaGreat.P
namespace Go.Proofs.YtmljebgideecjaaGreat.P
open Go.Proofs.YtmljebgideecjaaGreatZ Go.RowKit Go.Proofs.YtmljebgideecjaaGreatW.PrintWords Go.Proofs.YtmljebgideecjaaGreatW.PrintLast Go.Proofs.YtmljebgideecjaaGreatW.PrintMore
attribute [local go_sem] max2_int min2_int max_two min_two max_three min_three max_four min_four   -- for this text's walks alone
set_option linter.unusedVariables false
set_option linter.unusedSimpArgs false
def spec_l14Names.f  : Option (List ByteArray) := some (([(⟨#[]⟩ : ByteArray), (⟨#[112, 117, 116]⟩ : ByteArray), (⟨#[115, 101, 116]⟩ : ByteArray), (⟨#[100, 101, 108]⟩ : ByteArray), (⟨#[103, 101, 116]⟩ : ByteArray), (⟨#[102, 105, 110, 100]⟩ : ByteArray), (⟨#[99, 111, 117, 110, 116]⟩ : ByteArray), (⟨#[115, 99, 97, 110]⟩ : ByteArray), (⟨#[111, 112, 101, 110]⟩ : ByteArray), (⟨#[109, 97, 107, 101]⟩ : ByteArray), (⟨#[118, 105, 97]⟩ : ByteArray)] : List ByteArray))
set_option maxHeartbeats 8000000 in
set_option maxRecDepth 100000 in
theorem spec_l14Names.calls  (r : List ByteArray) (w : World) (h : spec_l14Names.f  = some r) :
    Calls Tryz.prog 191 #[] w fun e w' => ∃ v0_ : Value, e = .returned (v0_) ∧ Kd.R Kd.string 9 w' w.heap.size (fun _ => True) v0_ r ∧ Below w.heap.size w w' := by
  have HB := Aside0.mk (Below.refl w.heap.size w)
  have H := h
  unfold spec_l14Names.f at H
  clear h
  obtain ⟨y101, hy101⟩ : ∃ y_ : List ByteArray, y_ = (([(⟨#[]⟩ : ByteArray), (⟨#[112, 117, 116]⟩ : ByteArray), (⟨#[115, 101, 116]⟩ : ByteArray), (⟨#[100, 101, 108]⟩ : ByteArray), (⟨#[103, 101, 116]⟩ : ByteArray), (⟨#[102, 105, 110, 100]⟩ : ByteArray), (⟨#[99, 111, 117, 110, 116]⟩ : ByteArray), (⟨#[115, 99, 97, 110]⟩ : ByteArray), (⟨#[111, 112, 101, 110]⟩ : ByteArray), (⟨#[109, 97, 107, 101]⟩ : ByteArray), (⟨#[118, 105, 97]⟩ : ByteArray)] : List ByteArray)) := ⟨_, rfl⟩
  replace H : (some y101) = some r := yH H hy101
  have Ny101 := Aside0.mk hy101
  clear hy101
  obtain rfl := Option.some.inj H
  go_enter Tryz.func191, Tryz.ntmps191
  go_wp2_with (first | ((with_reducible refine gate_dst (N := 1) rfl ?_); refine Kd.R_lit Kd.string _ 9 ?hg (N := 1) ?hd (xs := ([(⟨#[]⟩ : ByteArray), (⟨#[112, 117, 116]⟩ : ByteArray), (⟨#[115, 101, 116]⟩ : ByteArray), (⟨#[100, 101, 108]⟩ : ByteArray), (⟨#[103, 101, 116]⟩ : ByteArray), (⟨#[102, 105, 110, 100]⟩ : ByteArray), (⟨#[99, 111, 117, 110, 116]⟩ : ByteArray), (⟨#[115, 99, 97, 110]⟩ : ByteArray), (⟨#[111, 112, 101, 110]⟩ : ByteArray), (⟨#[109, 97, 107, 101]⟩ : ByteArray), (⟨#[118, 105, 97]⟩ : ByteArray)] : List ByteArray)) (inner := [.string (⟨#[]⟩ : ByteArray), .string (⟨#[112, 117, 116]⟩ : ByteArray), .string (⟨#[115, 101, 116]⟩ : ByteArray), .string (⟨#[100, 101, 108]⟩ : ByteArray), .string (⟨#[103, 101, 116]⟩ : ByteArray), .string (⟨#[102, 105, 110, 100]⟩ : ByteArray), .string (⟨#[99, 111, 117, 110, 116]⟩ : ByteArray), .string (⟨#[115, 99, 97, 110]⟩ : ByteArray), .string (⟨#[111, 112, 101, 110]⟩ : ByteArray), .string (⟨#[109, 97, 107, 101]⟩ : ByteArray), .string (⟨#[118, 105, 97]⟩ : ByteArray)]) (ok := fun _ => True) (okp := fun _ => True) ?hr ?hp (fun _ hk => hk) trivial (Below.refl _ _) (Nat.le_refl _) (by simp) ?_; (case hd => rfl); (case hg => rfl); (case hr => first | (go_simp; done) | (go_simp; rfl)); (case hp => exact (Reps.one (show Kd.M Kd.string _ _ _ (⟨#[]⟩ : ByteArray) [.string (⟨#[]⟩ : ByteArray)] from rfl) (Reps.one (show Kd.M Kd.string _ _ _ (⟨#[112, 117, 116]⟩ : ByteArray) [.string (⟨#[112, 117, 116]⟩ : ByteArray)] from rfl) (Reps.one (show Kd.M Kd.string _ _ _ (⟨#[115, 101, 116]⟩ : ByteArray) [.string (⟨#[115, 101, 116]⟩ : ByteArray)] from rfl) (Reps.one (show Kd.M Kd.string _ _ _ (⟨#[100, 101, 108]⟩ : ByteArray) [.string (⟨#[100, 101, 108]⟩ : ByteArray)] from rfl) (Reps.one (show Kd.M Kd.string _ _ _ (⟨#[103, 101, 116]⟩ : ByteArray) [.string (⟨#[103, 101, 116]⟩ : ByteArray)] from rfl) (Reps.one (show Kd.M Kd.string _ _ _ (⟨#[102, 105, 110, 100]⟩ : ByteArray) [.string (⟨#[102, 105, 110, 100]⟩ : ByteArray)] from rfl) (Reps.one (show Kd.M Kd.string _ _ _ (⟨#[99, 111, 117, 110, 116]⟩ : ByteArray) [.string (⟨#[99, 111, 117, 110, 116]⟩ : ByteArray)] from rfl) (Reps.one (show Kd.M Kd.string _ _ _ (⟨#[115, 99, 97, 110]⟩ : ByteArray) [.string (⟨#[115, 99, 97, 110]⟩ : ByteArray)] from rfl) (Reps.one (show Kd.M Kd.string _ _ _ (⟨#[111, 112, 101, 110]⟩ : ByteArray) [.string (⟨#[111, 112, 101, 110]⟩ : ByteArray)] from rfl) (Reps.one (show Kd.M Kd.string _ _ _ (⟨#[109, 97, 107, 101]⟩ : ByteArray) [.string (⟨#[109, 97, 107, 101]⟩ : ByteArray)] from rfl) (Reps.one (show Kd.M Kd.string _ _ _ (⟨#[118, 105, 97]⟩ : ByteArray) [.string (⟨#[118, 105, 97]⟩ : ByteArray)] from rfl) (Reps.none _ _))))))))))))); intro vz1 wz1 hoz1 hb hg_ hnew_; clear hg_ hnew_; (first | rw [← Ny101.out] at hoz1 | (simp only [Int.reduceToNat] at hoz1; rw [← Ny101.out] at hoz1)); have HOz1 := Aside0.mk (Kd.R_lower hoz1 (below_size (hX HB.out))); replace HB := Aside0.mk (below_step (hX HB.out) hb); clear hb hoz1))
  go_ret
  exact ⟨_, rE, (rX HOz1.out), (hX HB.out)⟩
end Go.Proofs.YtmljebgideecjaaGreat.P
namespace Go.Proofs.YtmljebgideecjaaGreat.P
open Go.Proofs.YtmljebgideecjaaGreatZ Go.RowKit Go.Proofs.YtmljebgideecjaaGreatW.PrintWords Go.Proofs.YtmljebgideecjaaGreatW.PrintLast Go.Proofs.YtmljebgideecjaaGreatW.PrintMore
attribute [local go_sem] max2_int min2_int max_two min_two max_three min_three max_four min_four   -- for this text's walks alone
set_option linter.unusedVariables false
set_option linter.unusedSimpArgs false
mutual
def spec_OpText.j0 : Nat → ByteArray → Bool → Int → Int → Int → Option (ByteArray)
  | 0, _, _, _, _, _ => none
  | k + 1, x3, x19, x102000, x102001, x102002 => if x19 = true then (if x3.size + 1 ≤ 9223372036854775807 then ((spec_Digits.f k x102001).bind fun t108 => (if (x3 ++ (⟨#[32]⟩ : ByteArray)).size + t108.size ≤ 9223372036854775807 then (spec_OpText.j1 k ((x3 ++ (⟨#[32]⟩ : ByteArray)) ++ t108) x102000 x102001 x102002) else (none))) else (none)) else (spec_OpText.j1 k x3 x102000 x102001 x102002)
def spec_OpText.j1 : Nat → ByteArray → Int → Int → Int → Option (ByteArray)
  | 0, _, _, _, _ => none
  | k + 1, x3, x102000, x102001, x102002 => (spec_l4Val.f x102000).bind fun t109 => (if t109 = true then (if x3.size + 1 ≤ 9223372036854775807 then ((spec_Digits.f k x102002).bind fun t110 => (if (x3 ++ (⟨#[32]⟩ : ByteArray)).size + t110.size ≤ 9223372036854775807 then (some ((x3 ++ (⟨#[32]⟩ : ByteArray)) ++ t110)) else (none))) else (none)) else (some x3))
end
def spec_OpText.f (k : Nat) (a0_0 : Int) (a0_1 : Int) (a0_2 : Int) : Option (ByteArray) := (spec_OpOk.f k a0_0 a0_1 a0_2).bind fun t102 => (if t102 = true then ((spec_l14Names.f).bind fun t103 => (if 0 ≤ a0_0 then (if a0_0 < (t103.length : Int) then ((spec_l4Key.f a0_0).bind fun t107 => (if t107 = true then (spec_OpText.j0 k (rdOf ByteArray.empty t103 a0_0) true a0_0 a0_1 a0_2) else (spec_OpText.j0 k (rdOf ByteArray.empty t103 a0_0) (a0_0 == 6) a0_0 a0_1 a0_2))) else (none)) else (none))) else (some (⟨#[110, 111, 110, 101]⟩ : ByteArray)))
set_option maxHeartbeats 8000000 in
set_option maxRecDepth 100000 in
theorem spec_OpText.calls (k : Nat) (a0_0 : Int) (a0_1 : Int) (a0_2 : Int) (r : ByteArray) (w : World) (h : spec_OpText.f k a0_0 a0_1 a0_2 = some r) :
    Calls Tryz.prog 117 #[.agg #[.int .i64 a0_0, .int .i64 a0_1, .int .i64 a0_2]] w fun e w' => e = .returned (.string r) ∧ Below w.heap.size w w' := by
  have hu69 := Tryz.underlying69
  have HB := Aside0.mk (Below.refl w.heap.size w)
  have H := h
  unfold spec_OpText.f at H
  clear h
  replace H := bE H; obtain ⟨t102, A2, H⟩ := H
  go_enter Tryz.func117, Tryz.ntmps117
  go_wp2_with (first | (refine boxE 1 #[.int .i64 a0_0, .int .i64 a0_1, .int .i64 a0_2] 69 ?_; intro gbz1 hg wz1 hbox hb; have BKz1 := Aside0.mk (hbox); have GWz1 := Aside0.mk (gX' hg (hX HB.out)); have GEz1 := Aside0.mk (gX' hg (hX HB.out)); replace HB := Aside0.mk (below_step (hX HB.out) hb); clear hb hbox hg; obtain ⟨hczz1, hczz2, hczz3, hfzz1, hfzz2, hfzz3⟩ := cZ3 BKz1.out; refine Stop.out ?_))
  refine ⟨?_⟩
  by_cases c3 : t102 = true
  · subst c3
    rw [if_pos rfl] at H
    replace H := bE H; obtain ⟨t103, A4, H⟩ := H
    replace H := ifP H; obtain ⟨c5, H⟩ := H
    have c5b0 := decide_eq_true c5
    clear c5
    replace H := ifP H; obtain ⟨c6, H⟩ := H
    have c6b0 := decide_eq_true c6
    clear c6
    have HC7 := Aside0.mk H
    clear H
    try go_wp2_with (first | (refine goesM 138 5 Tryz.func138 #[.agg #[.int .i64 a0_0, .int .i64 a0_1, .int .i64 a0_2]] ?_; refine (spec_OpOk.calls k a0_0 a0_1 a0_2 true _ A2.out).mono ?_; rintro e wz2 ⟨rfl, hb⟩; refine ⟨_, rfl, ?_⟩; replace BKz1 := Aside0.mk (blk_below (bX BKz1.out) hb); replace HB := Aside0.mk (below_step (hX HB.out) hb); clear hb))
    replace BKz1 := Aside0.mk (blk_drew BKz1.out)
    replace HB := Aside0.mk (below_drew1 HB.out)
    refine start_ (n := 6) (S := fun w' => w'.cell? ⟨gbz1, 0, none⟩ = some (.int .i64 a0_0) ∧ w'.cell? ⟨gbz1, 1, none⟩ = some (.int .i64 a0_1) ∧ w'.cell? ⟨gbz1, 2, none⟩ = some (.int .i64 a0_2)) (ds := []) (bm 6 0) (by kernel_rfl) rfl (by kernel_rfl) ⟨cK BKz1.out 0, cK BKz1.out 1, cK BKz1.out 2⟩ (fun hHeld => ?_)
    generalize wz2.drew = wz3 at BKz1 HB hHeld ⊢
    refine pK 1 8 (bm 6 2) ?_
    refine tK 2 9 (bm 6 6) hHeld ?_
    refine oK 0 (some 7) (bm 6 7) (fun K hK => ?_)
    refine goesN Tryz.func191 #[] ?_
    with_reducible refine (spec_l14Names.calls  t103 _ A4.out).mono ?_
    rintro e wz4 ⟨vz1, rfl, hoz1, hb⟩
    refine ⟨_, rfl, ?_⟩
    have HOz1 := Aside0.mk (Kd.R_lower hoz1 (below_size (hX HB.out)))
    replace BKz1 := Aside0.mk (blk_below (bX BKz1.out) hb)
    replace HB := Aside0.mk (below_step (hX HB.out) hb)
    (try clear hb)
    (try clear hb2)
    (try clear hk)
    (try clear hi)
    (try clear hoz1)
    obtain ⟨Aoz1, coz1, eoz1⟩ := Kd.R_slice HOz1.out
    (first | subst eoz1 | (injection eoz1 with f1_ f2_ f3_; have fz1 := f1_.symm; have fz2 := f3_.symm; clear f1_ f2_ f3_; subst fz1; subst fz2))
    have pz1 : 0 ≤ (a0_0 : Int) := of_decide_eq_true (by first | (with_reducible assumption) | assumption)
    have qz1 : a0_0 < (t103.length : Int) := of_decide_eq_true (by first | (with_reducible assumption) | assumption)
    obtain ⟨adz1, ez1, hxz1⟩ := Kd.at_string (Kd.R_reads' HOz1.out).2.2 a0_0 pz1 qz1
    cases ez1
    replace pz1 := eq_true pz1
    replace qz1 := eq_true qz1
    refine hK.out _ _ ⟨cK BKz1.out 0, cK BKz1.out 1, cK BKz1.out 2⟩ (fun hHeld => ?_)
    clear hK K
    refine nZ 7 ?_
    refine pK 3 10 (bm 6 15) ?_
    refine Go.Proofs.YtmljebgideecjaaGreatZ.now_ (i := 4) (N := some 11) (v := ?_) (a' := ?_) #[true, true, true, true, true, false] rfl rfl (by kernel_rfl) (by decide) rfl ?_ hHeld ?_ ?_
    rotate_left
    · go_simp
      with_reducible rfl
    rotate_left
    · simp only [Act.put, List.setIfInBounds_toArray, List.set_cons_zero, List.set_cons_succ, i64_w, i32_w]
      rfl
    refine pK 5 3 (bm 6 63) ?_
    refine done_ (by kernel_rfl) ?_
    go_upto_region 4 with (fail)
    go_cut [19] (fun vz2 wc => ∃ (kq : Nat) (x19_6 : Bool), vz2 = .bool x19_6 ∧ Aside0 (spec_OpText.j0 kq (rdOf ByteArray.empty t103 a0_0) x19_6 a0_0 a0_1 a0_2 = some r) ∧ Aside0 (kq ≤ k) ∧ Aside0 (wc.heap[gbz1]? = some (.cells #[.int .i64 a0_0, .int .i64 a0_1, .int .i64 a0_2] 69 (0, 0))) ∧ Aside0 (Below w.heap.size w wc))
    case first =>
      have H := HC7.out
      clear HC7
      replace H := bE H; obtain ⟨t107, A14, H⟩ := H
      by_cases c15 : t107 = true
      · subst c15
        rw [if_pos rfl] at H
        have H' := Aside0.mk H
        clear H
        obtain ⟨hczy1, hczy2, hczy3, hfzy1, hfzy2, hfzy3⟩ := cZ3 BKz1.out
        go_wp2_with (first | (refine goesM 192 14 Tryz.func192 #[.int .i64 a0_0] ?_; refine (spec_l4Key.calls a0_0 true _ A14.out).mono ?_; rintro e w' ⟨rfl, ⟨nd, rfl⟩⟩; refine ⟨_, rfl, ?_⟩))
        go_meet
        case rel => exact ⟨_, (true), rS, H', ⟨by first | omega | exact Nat.le_refl _⟩, ⟨(bX BKz1.out)⟩, ⟨(hX HB.out)⟩⟩
      · replace c15 := Bool.eq_false_iff.mpr c15
        subst c15
        rw [if_neg nft] at H
        have H' := Aside0.mk H
        clear H
        obtain ⟨hczy1, hczy2, hczy3, hfzy1, hfzy2, hfzy3⟩ := cZ3 BKz1.out
        go_wp2_with (first | (refine goesM 192 14 Tryz.func192 #[.int .i64 a0_0] ?_; refine (spec_l4Key.calls a0_0 false _ A14.out).mono ?_; rintro e w' ⟨rfl, ⟨nd, rfl⟩⟩; refine ⟨_, rfl, ?_⟩))
        go_meet
        case rel => exact ⟨_, ((a0_0 == 6)), rS, H', ⟨by first | omega | exact Nat.le_refl _⟩, ⟨(bX BKz1.out)⟩, ⟨(hX HB.out)⟩⟩
    case rest =>
      clear HC7
      try clear c1
      try clear p1
      try clear q1
      try clear hx1
      try clear p2
      try clear c3
      try clear c5
      try clear c5b0
      try clear c6
      try clear c6b0
      try clear p10
      try clear q10
      try clear hx10
      try clear c11
      try clear c13
      try clear c15
      try clear hcz16_0
      try clear hcz16_1
      try clear hcz16_2
      try clear hcz17_0
      try clear hcz17_1
      try clear hcz17_2
      try clear hczz1
      try clear hczz2
      try clear hczz3
      try clear hfz16_0
      try clear hfz16_1
      try clear hfz16_2
      try clear hfz17_0
      try clear hfz17_1
      try clear hfz17_2
      try clear hfzz1
      try clear hfzz2
      try clear hfzz3
      try clear hxz1
      try clear pz1
      try clear qz1
      obtain ⟨kq, x19_6, rfl, HA, HJy1, BKz1, HB⟩ := hcut
      cases kq with
      | zero => exact absurd HA.out (by simp [spec_OpText.j0])
      | succ kj6 =>
        have H := HA.out
        clear HA
        simp only [spec_OpText.j0] at H
        have HC18 := Aside0.mk H
        clear H
        go_upto_if 19 with (fail)
        go_cut [3] (fun vx1 wc => ∃ (kq : Nat) (x3_17 : ByteArray), vx1 = .string x3_17 ∧ Aside0 (spec_OpText.j1 kq x3_17 a0_0 a0_1 a0_2 = some r) ∧ Aside0 (kq ≤ kj6) ∧ Aside0 (wc.heap[gbz1]? = some (.cells #[.int .i64 a0_0, .int .i64 a0_1, .int .i64 a0_2] 69 (0, 0))) ∧ Aside0 (Below w.heap.size w wc))
        case first =>
          have H := HC18.out
          clear HC18
          by_cases c19 : x19_6 = true
          · subst c19
            rw [if_pos rfl] at H
            replace H := ifP H; obtain ⟨c20, H⟩ := H
            have c20b0 := eq_true c20
            have c20b1 := decide_eq_true c20
            try have c20b2 : (9223372036854775807 < (rdOf ByteArray.empty t103 a0_0).size + 1) = False := eq_false (Nat.not_lt.2 c20)
            replace H := bE H; obtain ⟨t108, A21, H⟩ := H
            replace H := ifP H; obtain ⟨c22, H⟩ := H
            have c22b0 := eq_true c22
            have c22b1 := decide_eq_true c22
            try have c22b2 : (9223372036854775807 < ((rdOf ByteArray.empty t103 a0_0) ++ (⟨#[32]⟩ : ByteArray)).size + t108.size) = False := eq_false (Nat.not_lt.2 c22)
            (try (have c22b3 : (rdOf ByteArray.empty t103 a0_0).size + 1 + t108.size ≤ 9223372036854775807 := (by have h_ := c22; simp only [ByteArray.size_append, strOfNums_size] at h_; exact h_); have c22b4 := eq_true c22b3; (try have c22b5 := decide_eq_true c22b3); (try have c22b6 := eq_false (Nat.not_lt.2 c22b3))))
            have H' := Aside0.mk H
            clear H
            obtain ⟨hczw1, hczw2, hczw3, hfzw1, hfzw2, hfzw3⟩ := cZ3 BKz1.out
            go_wp2_with (first | (refine goesM 114 24 Tryz.func114 #[.int .i64 a0_1] ?_; refine (spec_Digits.calls kj6 a0_1 t108 _ A21.out).mono ?_; rintro e ww1 ⟨rfl, hb⟩; refine ⟨_, rfl, ?_⟩; replace BKz1 := Aside0.mk (blk_below (bX BKz1.out) hb); replace HB := Aside0.mk (below_step (hX HB.out) hb); clear hb))
            go_meet
            case rel => exact ⟨_, (((rdOf ByteArray.empty t103 a0_0) ++ (⟨#[32]⟩ : ByteArray)) ++ t108), rS, H', ⟨by have := HJy1.out; first | omega | exact Nat.le_refl _⟩, ⟨(bX BKz1.out)⟩, ⟨(hX HB.out)⟩⟩
          · replace c19 := Bool.eq_false_iff.mpr c19
            subst c19
            rw [if_neg nft] at H
            have H' := Aside0.mk H
            clear H
            go_wp2
            go_meet
            case rel => exact ⟨_, ((rdOf ByteArray.empty t103 a0_0)), rS, H', ⟨by have := HJy1.out; first | omega | exact Nat.le_refl _⟩, ⟨(bX BKz1.out)⟩, ⟨(hX HB.out)⟩⟩
        case rest =>
          clear HC18
          try clear c1
          try clear p1
          try clear q1
          try clear hx1
          try clear c2
          try clear p2
          try clear c3
          try clear c5
          try clear c5b0
          try clear c6
          try clear c6b0
          try clear p10
          try clear q10
          try clear hx10
          try clear c11
          try clear c13
          try clear c15
          try clear c19
          try clear c20
          try clear c20b0
          try clear c20b1
          try clear c20b2
          try clear c22
          try clear c22b0
          try clear c22b1
          try clear c22b2
          try clear hcz16_0
          try clear hcz16_1
          try clear hcz16_2
          try clear hcz17_0
          try clear hcz17_1
          try clear hcz17_2
          try clear hcz23_0
          try clear hcz23_1
          try clear hcz23_2
          try clear hczz1
          try clear hczz2
          try clear hczz3
          try clear hfz16_0
          try clear hfz16_1
          try clear hfz16_2
          try clear hfz17_0
          try clear hfz17_1
          try clear hfz17_2
          try clear hfz23_0
          try clear hfz23_1
          try clear hfz23_2
          try clear hfzz1
          try clear hfzz2
          try clear hfzz3
          try clear hxz1
          try clear p1
          try clear p10
          try clear pz1
          try clear p2
          try clear q1
          try clear q10
          try clear qz1
          obtain ⟨kq, x3_17, rfl, HA, HJw1, BKz1, HB⟩ := hcut
          cases kq with
          | zero => exact absurd HA.out (by simp [spec_OpText.j1])
          | succ kj17 =>
            have H := HA.out
            clear HA
            simp only [spec_OpText.j1] at H
            replace H := bE H; obtain ⟨t109, A25, H⟩ := H
            by_cases c26 : t109 = true
            · subst c26
              rw [if_pos rfl] at H
              replace H := ifP H; obtain ⟨c27, H⟩ := H
              have c27b0 := eq_true c27
              have c27b1 := decide_eq_true c27
              try have c27b2 : (9223372036854775807 < x3_17.size + 1) = False := eq_false (Nat.not_lt.2 c27)
              replace H := bE H; obtain ⟨t110, A28, H⟩ := H
              replace H := ifP H; obtain ⟨c29, H⟩ := H
              have c29b0 := eq_true c29
              have c29b1 := decide_eq_true c29
              try have c29b2 : (9223372036854775807 < (x3_17 ++ (⟨#[32]⟩ : ByteArray)).size + t110.size) = False := eq_false (Nat.not_lt.2 c29)
              (try (have c29b3 : x3_17.size + 1 + t110.size ≤ 9223372036854775807 := (by have h_ := c29; simp only [ByteArray.size_append, strOfNums_size] at h_; exact h_); have c29b4 := eq_true c29b3; (try have c29b5 := decide_eq_true c29b3); (try have c29b6 := eq_false (Nat.not_lt.2 c29b3))))
              obtain rfl := Option.some.inj H
              obtain ⟨hczv1, hczv2, hczv3, hfzv1, hfzv2, hfzv3⟩ := cZ3 BKz1.out
              go_wp2_with (first | (refine goesM 193 28 Tryz.func193 #[.int .i64 a0_0] ?_; refine (spec_l4Val.calls a0_0 true _ A25.out).mono ?_; rintro e w' ⟨rfl, ⟨nd, rfl⟩⟩; refine ⟨_, rfl, ?_⟩) | (refine goesM 114 33 Tryz.func114 #[.int .i64 a0_2] ?_; refine (spec_Digits.calls kj17 a0_2 t110 _ A28.out).mono ?_; rintro e wv1 ⟨rfl, hb⟩; refine ⟨_, rfl, ?_⟩; replace BKz1 := Aside0.mk (blk_below (bX BKz1.out) hb); replace HB := Aside0.mk (below_step (hX HB.out) hb); clear hb))
              go_ret
              exact ⟨rE, (hX HB.out)⟩
            · replace c26 := Bool.eq_false_iff.mpr c26
              subst c26
              rw [if_neg nft] at H
              obtain rfl := Option.some.inj H
              obtain ⟨hczv1, hczv2, hczv3, hfzv1, hfzv2, hfzv3⟩ := cZ3 BKz1.out
              go_wp2_with (first | (refine goesM 193 28 Tryz.func193 #[.int .i64 a0_0] ?_; refine (spec_l4Val.calls a0_0 false _ A25.out).mono ?_; rintro e w' ⟨rfl, ⟨nd, rfl⟩⟩; refine ⟨_, rfl, ?_⟩))
              go_ret
              exact ⟨rE, (hX HB.out)⟩
  · replace c3 := Bool.eq_false_iff.mpr c3
    subst c3
    rw [if_neg nft] at H
    obtain rfl := Option.some.inj H
    go_wp2_with (first | (refine goesM 138 5 Tryz.func138 #[.agg #[.int .i64 a0_0, .int .i64 a0_1, .int .i64 a0_2]] ?_; refine (spec_OpOk.calls k a0_0 a0_1 a0_2 false _ A2.out).mono ?_; rintro e wz2 ⟨rfl, hb⟩; refine ⟨_, rfl, ?_⟩; replace BKz1 := Aside0.mk (blk_below (bX BKz1.out) hb); replace HB := Aside0.mk (below_step (hX HB.out) hb); clear hb))
    go_ret
    exact ⟨rE, (hX HB.out)⟩
end Go.Proofs.YtmljebgideecjaaGreat.P
namespace Go.Proofs.YtmljebgideecjaaGreat.P
open Go.Proofs.YtmljebgideecjaaGreatZ Go.RowKit Go.Proofs.YtmljebgideecjaaGreatW.PrintWords Go.Proofs.YtmljebgideecjaaGreatW.PrintLast Go.Proofs.YtmljebgideecjaaGreatW.PrintMore
attribute [local go_sem] max2_int min2_int max_two min_two max_three min_three max_four min_four   -- for this text's walks alone
set_option linter.unusedVariables false
set_option linter.unusedSimpArgs false
def spec_ResText.f (k : Nat) (a0_0 : Int) (l0_1 : List Int) : Option (ByteArray) := (some (([(⟨#[100, 111, 110, 101]⟩ : ByteArray), (⟨#[116, 104, 101, 114, 101]⟩ : ByteArray), (⟨#[116, 97, 107, 101, 110]⟩ : ByteArray), (⟨#[110, 111, 110, 101]⟩ : ByteArray), (⟨#[110, 111, 116]⟩ : ByteArray), (⟨#[119, 104, 97, 116]⟩ : ByteArray)] : List ByteArray) : List ByteArray)).bind fun y102 => ((spec_l1In.f a0_0 0 (wrap64 ((y102.length : Int) - 1))).bind fun t105 => (if t105 = true then (if (l0_1.length : Int) > 0 then (if 0 ≤ a0_0 then (if a0_0 < (y102.length : Int) then (if (rdOf ByteArray.empty y102 a0_0).size + 1 ≤ 9223372036854775807 then ((spec_NumsText.f k l0_1).bind fun t107 => (if ((rdOf ByteArray.empty y102 a0_0) ++ (⟨#[32]⟩ : ByteArray)).size + t107.size ≤ 9223372036854775807 then (some (((rdOf ByteArray.empty y102 a0_0) ++ (⟨#[32]⟩ : ByteArray)) ++ t107)) else (none))) else (none)) else (none)) else (none)) else (if 0 ≤ a0_0 then (if a0_0 < (y102.length : Int) then (some (rdOf ByteArray.empty y102 a0_0)) else (none)) else (none))) else (if (l0_1.length : Int) > 0 then (if 0 ≤ (wrap64 ((y102.length : Int) - 1)) then (if (wrap64 ((y102.length : Int) - 1)) < (y102.length : Int) then (if (rdOf ByteArray.empty y102 (wrap64 ((y102.length : Int) - 1))).size + 1 ≤ 9223372036854775807 then ((spec_NumsText.f k l0_1).bind fun t110 => (if ((rdOf ByteArray.empty y102 (wrap64 ((y102.length : Int) - 1))) ++ (⟨#[32]⟩ : ByteArray)).size + t110.size ≤ 9223372036854775807 then (some (((rdOf ByteArray.empty y102 (wrap64 ((y102.length : Int) - 1))) ++ (⟨#[32]⟩ : ByteArray)) ++ t110)) else (none))) else (none)) else (none)) else (none)) else (if 0 ≤ (wrap64 ((y102.length : Int) - 1)) then (if (wrap64 ((y102.length : Int) - 1)) < (y102.length : Int) then (some (rdOf ByteArray.empty y102 (wrap64 ((y102.length : Int) - 1)))) else (none)) else (none)))))
def spec_ResText.T6 : Bool × List (List Nat × List Nat) := (true, [([], []), ([], []), ([0, 1], [0, 1]), ([2], [2]), ([3], [3]), ([], []), ([5], [5]), ([6], [6]), ([4, 7], [4, 7]), ([8, 7, 0, 1, 2, 3, 4, 5, 6, 7, 8], [8])])
def spec_ResText.B6 : List Nat := [0, 0, 3, 7, 15, 0, 32, 96, 255, 511]
theorem spec_ResText.tab6 : rtab .any (opsOf Tryz.f118 6) = spec_ResText.T6 := by kernel_rfl
theorem spec_ResText.bits6 : waitsOk spec_ResText.T6.2 spec_ResText.B6 = true := by kernel_rfl
set_option maxHeartbeats 8000000 in
set_option maxRecDepth 100000 in
theorem spec_ResText.calls (k : Nat) (a0_0 : Int) (A0_1 : Option Addr) (c0_1 : Nat) (l0_1 : List Int) (r : ByteArray) (w : World) (hr0_1 : Kd.C (Kd.int .i64) w A0_1 l0_1.length l0_1) (hc0_1 : l0_1.length ≤ c0_1) (h : spec_ResText.f k a0_0 l0_1 = some r) :
    Calls Tryz.prog 118 #[.agg #[.int .i64 a0_0, .slice A0_1 l0_1.length c0_1]] w fun e w' => e = .returned (.string r) ∧ Below w.heap.size w w' := by
  have hu71 := Tryz.underlying71
  have HR0_1 := Aside0.mk hr0_1
  have HC0_1 := Aside0.mk hc0_1
  clear hr0_1 hc0_1
  have HB := Aside0.mk (Below.refl w.heap.size w)
  have H := h
  unfold spec_ResText.f at H
  clear h
  replace H := sE H; obtain ⟨y102, Ny102, H⟩ := H
  replace H := bE H; obtain ⟨t105, A2, H⟩ := H
  go_enter Tryz.func118, Tryz.ntmps118
  go_wp2_with (first | (refine boxE 1 #[.int .i64 a0_0, .slice A0_1 l0_1.length c0_1] 71 ?_; intro gbz1 hg wz1 hbox hb; have BKz1 := Aside0.mk (hbox); have GWz1 := Aside0.mk (gX' hg (hX HB.out)); have GEz1 := Aside0.mk (gX' hg (hX HB.out)); replace HB := Aside0.mk (below_step (hX HB.out) hb); clear hb hbox hg) | ((with_reducible refine gate_dst (N := 5) rfl ?_); refine Kd.R_lit Kd.string _ 9 ?hg (N := 5) ?hd (xs := ([(⟨#[100, 111, 110, 101]⟩ : ByteArray), (⟨#[116, 104, 101, 114, 101]⟩ : ByteArray), (⟨#[116, 97, 107, 101, 110]⟩ : ByteArray), (⟨#[110, 111, 110, 101]⟩ : ByteArray), (⟨#[110, 111, 116]⟩ : ByteArray), (⟨#[119, 104, 97, 116]⟩ : ByteArray)] : List ByteArray)) (inner := [.string (⟨#[100, 111, 110, 101]⟩ : ByteArray), .string (⟨#[116, 104, 101, 114, 101]⟩ : ByteArray), .string (⟨#[116, 97, 107, 101, 110]⟩ : ByteArray), .string (⟨#[110, 111, 110, 101]⟩ : ByteArray), .string (⟨#[110, 111, 116]⟩ : ByteArray), .string (⟨#[119, 104, 97, 116]⟩ : ByteArray)]) (ok := fun _ => True) (okp := fun _ => True) ?hr ?hp (fun _ hk => hk) trivial (Below.refl _ _) (Nat.le_refl _) (by simp) ?_; (case hd => rfl); (case hg => rfl); (case hr => first | (go_simp; done) | (go_simp; rfl)); (case hp => exact (Reps.one (show Kd.M Kd.string _ _ _ (⟨#[100, 111, 110, 101]⟩ : ByteArray) [.string (⟨#[100, 111, 110, 101]⟩ : ByteArray)] from rfl) (Reps.one (show Kd.M Kd.string _ _ _ (⟨#[116, 104, 101, 114, 101]⟩ : ByteArray) [.string (⟨#[116, 104, 101, 114, 101]⟩ : ByteArray)] from rfl) (Reps.one (show Kd.M Kd.string _ _ _ (⟨#[116, 97, 107, 101, 110]⟩ : ByteArray) [.string (⟨#[116, 97, 107, 101, 110]⟩ : ByteArray)] from rfl) (Reps.one (show Kd.M Kd.string _ _ _ (⟨#[110, 111, 110, 101]⟩ : ByteArray) [.string (⟨#[110, 111, 110, 101]⟩ : ByteArray)] from rfl) (Reps.one (show Kd.M Kd.string _ _ _ (⟨#[110, 111, 116]⟩ : ByteArray) [.string (⟨#[110, 111, 116]⟩ : ByteArray)] from rfl) (Reps.one (show Kd.M Kd.string _ _ _ (⟨#[119, 104, 97, 116]⟩ : ByteArray) [.string (⟨#[119, 104, 97, 116]⟩ : ByteArray)] from rfl) (Reps.none _ _)))))))); intro vz1 wz2 hoz1 hb hg_ hnew_; clear hg_ hnew_; (first | rw [← Ny102.out] at hoz1 | (simp only [Int.reduceToNat] at hoz1; rw [← Ny102.out] at hoz1)); have HOz1 := Aside0.mk (Kd.R_lower hoz1 (below_size (hX HB.out))); replace BKz1 := Aside0.mk (blk_below (bX BKz1.out) hb); replace HB := Aside0.mk (below_step (hX HB.out) hb); clear hb hoz1; obtain ⟨hczz1, hczz2, hfzz1, hfzz2⟩ := cZ2 BKz1.out; obtain ⟨Aoz1, coz1, eoz1⟩ := Kd.R_slice HOz1.out; subst eoz1; refine Stop.out ?_))
  refine ⟨?_⟩
  by_cases c3 : t105 = true
  · subst c3
    rw [if_pos rfl] at H
    by_cases c4 : (l0_1.length : Int) > 0
    · rw [if_pos c4] at H
      have c4b0 := decide_eq_true c4
      have c4b1 : decide (0 < l0_1.length) = true := decide_eq_true (by omega)
      clear c4
      replace H := ifP H; obtain ⟨c5, H⟩ := H
      have c5b0 := decide_eq_true c5
      clear c5
      replace H := ifP H; obtain ⟨c6, H⟩ := H
      have c6b0 := decide_eq_true c6
      clear c6
      replace H := ifP H; obtain ⟨c7, H⟩ := H
      have c7b0 := eq_true c7
      have c7b1 := decide_eq_true c7
      try have c7b2 : (9223372036854775807 < (rdOf ByteArray.empty y102 a0_0).size + 1) = False := eq_false (Nat.not_lt.2 c7)
      replace H := bE H; obtain ⟨t107, A8, H⟩ := H
      replace H := ifP H; obtain ⟨c9, H⟩ := H
      have c9b0 := eq_true c9
      have c9b1 := decide_eq_true c9
      try have c9b2 : (9223372036854775807 < ((rdOf ByteArray.empty y102 a0_0) ++ (⟨#[32]⟩ : ByteArray)).size + t107.size) = False := eq_false (Nat.not_lt.2 c9)
      (try (have c9b3 : (rdOf ByteArray.empty y102 a0_0).size + 1 + t107.size ≤ 9223372036854775807 := (by have h_ := c9; simp only [ByteArray.size_append, strOfNums_size] at h_; exact h_); have c9b4 := eq_true c9b3; (try have c9b5 := decide_eq_true c9b3); (try have c9b6 := eq_false (Nat.not_lt.2 c9b3))))
      obtain rfl := Option.some.inj H
      try go_wp2_with (first | (refine goesM 43 12 Tryz.func43 #[.int .i64 a0_0, .int .i64 0, .int .i64 (wrap64 ((y102.length : Int) - 1))] ?_; refine (spec_l1In.calls a0_0 0 (wrap64 ((y102.length : Int) - 1)) true _ A2.out).mono ?_; rintro e w' ⟨rfl, ⟨nd, rfl⟩⟩; refine ⟨_, rfl, ?_⟩))
      (try (rw [drewN_self wz2]; generalize hq_ : World.drewN wz2 _ = wz2; have nz1 : Aside0 (Kd.R Kd.string 9 wz2 w.heap.size (fun _ => True) (.slice Aoz1 y102.length coz1) y102) := ⟨by rw [← hq_]; exact (rX HOz1.out)⟩; have nz2 : Aside0 (wz2.heap[gbz1]? = some (.cells #[.int .i64 a0_0, .slice A0_1 l0_1.length c0_1] 71 (0, 0))) := ⟨by rw [← hq_]; exact (bX BKz1.out)⟩; have nz3 : Aside0 (Below w.heap.size w wz2) := ⟨by rw [← hq_]; exact (hX HB.out)⟩; clear HOz1 BKz1 HB hq_; have HOz1 := nz1; have BKz1 := nz2; have HB := nz3; clear nz1 nz2 nz3))
      replace HOz1 := Aside0.mk (Kd.R_drew HOz1.out)
      replace BKz1 := Aside0.mk (blk_drew BKz1.out)
      replace HB := Aside0.mk (below_drew1 HB.out)
      have pz1 : 0 ≤ (a0_0 : Int) := of_decide_eq_true (by first | (with_reducible assumption) | assumption)
      have qz1 : a0_0 < (y102.length : Int) := of_decide_eq_true (by first | (with_reducible assumption) | assumption)
      obtain ⟨adz1, ez1, hxz1⟩ := Kd.at_string (Kd.R_reads' HOz1.out).2.2 a0_0 pz1 qz1
      cases ez1
      replace pz1 := eq_true pz1
      replace qz1 := eq_true qz1
      refine start_ (n := 10) (S := fun w' => w'.cell? ⟨gbz1, 0, none⟩ = some (.int .i64 a0_0) ∧ w'.cell? ⟨gbz1, 1, none⟩ = some (.slice A0_1 l0_1.length c0_1) ∧ w'.cell? (adz1.add (a0_0).toNat) = some (.string (rdOf ByteArray.empty y102 a0_0))) (ds := []) (bm 10 0) (by kernel_rfl) rfl (by kernel_rfl) ⟨cK BKz1.out 0, cK BKz1.out 1, hxz1⟩ (fun hHeld => ?_); refine with_tabW spec_ResText.tab6 spec_ResText.bits6 (fun HT_ HW_ => ?_)
      generalize wz2.drew = wz3 at HOz1 BKz1 HB hxz1 hHeld ⊢
      refine pZ 0 21 (bm 10 1) HT_.out ?_
      refine pZ 1 22 (bm 10 3) HT_.out ?_
      refine pZ 2 23 (bm 10 7) HT_.out ?_
      refine pZ 5 26 (bm 10 39) HT_.out ?_
      refine tZ 3 24 (bm 10 47) HT_.out HW_.out hHeld ?_
      refine pZ 4 25 (bm 10 63) HT_.out ?_
      refine tZ 6 27 (bm 10 127) HT_.out HW_.out hHeld ?_
      refine oZ 7 (some 28) (bm 10 255) HT_.out (fun K hK => ?_)
      refine goesN Tryz.func113 #[.slice A0_1 l0_1.length c0_1] ?_
      with_reducible refine (spec_NumsText.calls k _ _ l0_1 t107 _ ?side1 ?side2 A8.out).mono ?_
      (case side1 => repeat (first | exact (Kd.C_below HR0_1.out HB.out) | (with_reducible refine Kd.C_alloc ?_ _) | (with_reducible refine Kd.C_drewN ?_ _) | (with_reducible refine Kd.C_drew ?_)))
      (case side2 => exact HC0_1.out)
      rintro e wz4 ⟨rfl, hb⟩
      have HSz1 := (hb.cell (World.block_lt_of_cell? _ _ (hHeld.2.2))).trans (hHeld.2.2)
      refine ⟨_, rfl, ?_⟩
      replace HOz1 := Aside0.mk (Kd.R_below (rX HOz1.out) hb)
      replace BKz1 := Aside0.mk (blk_below (bX BKz1.out) hb)
      replace HB := Aside0.mk (below_step (hX HB.out) hb)
      (try clear hb)
      (try clear hb2)
      (try clear hk)
      (try clear hi)
      refine hK.out _ _ ⟨cK BKz1.out 0, cK BKz1.out 1, HSz1⟩ (fun hHeld => ?_)
      clear hK K
      refine nZ 28 ?_
      refine pZ 8 29 (bm 10 511) HT_.out ?_
      refine pZ 9 2 (bm 10 1023) HT_.out ?_
      refine done_ (done_of HT_.out (by kernel_rfl)) ?_
      try go_wp2
      go_ret
      exact ⟨rE, (hX HB.out)⟩
    · rw [if_neg c4] at H
      have c4b0 := decide_eq_false c4
      have c4b1 : decide (0 < l0_1.length) = false := decide_eq_false (by omega)
      clear c4
      replace H := ifP H; obtain ⟨c17, H⟩ := H
      have c17b0 := decide_eq_true c17
      clear c17
      replace H := ifP H; obtain ⟨c18, H⟩ := H
      have c18b0 := decide_eq_true c18
      clear c18
      obtain rfl := Option.some.inj H
      go_wp2_with (first | (refine goesM 43 12 Tryz.func43 #[.int .i64 a0_0, .int .i64 0, .int .i64 (wrap64 ((y102.length : Int) - 1))] ?_; refine (spec_l1In.calls a0_0 0 (wrap64 ((y102.length : Int) - 1)) true _ A2.out).mono ?_; rintro e w' ⟨rfl, ⟨nd, rfl⟩⟩; refine ⟨_, rfl, ?_⟩; have pz1 : 0 ≤ (a0_0 : Int) := of_decide_eq_true (by first | (with_reducible assumption) | assumption); have qz1 : a0_0 < (y102.length : Int) := of_decide_eq_true (by first | (with_reducible assumption) | assumption); obtain ⟨adz1, ez1, hxz1⟩ := Kd.at_string (Kd.R_reads' HOz1.out).2.2 a0_0 pz1 qz1; cases ez1; replace pz1 := eq_true pz1; replace qz1 := eq_true qz1))
      go_ret
      exact ⟨rE, (hX HB.out)⟩
  · replace c3 := Bool.eq_false_iff.mpr c3
    subst c3
    rw [if_neg nft] at H
    by_cases c24 : (l0_1.length : Int) > 0
    · rw [if_pos c24] at H
      have c24b0 := decide_eq_true c24
      have c24b1 : decide (0 < l0_1.length) = true := decide_eq_true (by omega)
      clear c24
      obtain ⟨ji25, hji25⟩ : ∃ j_ : Int, (wrap64 ((y102.length : Int) - 1)) = j_ := ⟨_, rfl⟩
      replace H : (if 0 ≤ (ji25) then (if (ji25) < (y102.length : Int) then (if (rdOf ByteArray.empty y102 (ji25)).size + 1 ≤ 9223372036854775807 then ((spec_NumsText.f k l0_1).bind fun t110 => (if ((rdOf ByteArray.empty y102 (ji25)) ++ (⟨#[32]⟩ : ByteArray)).size + t110.size ≤ 9223372036854775807 then (some (((rdOf ByteArray.empty y102 (ji25)) ++ (⟨#[32]⟩ : ByteArray)) ++ t110)) else (none))) else (none)) else (none)) else (none)) = some r := by first | (rw [hji25] at H; exact H) | (simp only [hji25] at H ⊢; exact H)
      (try rw [hji25] at A2)
      have hji25w : (IntKind.i64.wrap ((y102.length : Int) - 1)) = ji25 := (i64_w _).trans hji25
      replace H := ifP H; obtain ⟨c26, H⟩ := H
      have c26b0 := decide_eq_true c26
      clear c26
      replace H := ifP H; obtain ⟨c27, H⟩ := H
      have c27b0 := decide_eq_true c27
      clear c27
      replace H := ifP H; obtain ⟨c28, H⟩ := H
      have c28b0 := eq_true c28
      have c28b1 := decide_eq_true c28
      try have c28b2 : (9223372036854775807 < (rdOf ByteArray.empty y102 (ji25)).size + 1) = False := eq_false (Nat.not_lt.2 c28)
      replace H := bE H; obtain ⟨t110, A29, H⟩ := H
      replace H := ifP H; obtain ⟨c30, H⟩ := H
      have c30b0 := eq_true c30
      have c30b1 := decide_eq_true c30
      try have c30b2 : (9223372036854775807 < ((rdOf ByteArray.empty y102 (ji25)) ++ (⟨#[32]⟩ : ByteArray)).size + t110.size) = False := eq_false (Nat.not_lt.2 c30)
      (try (have c30b3 : (rdOf ByteArray.empty y102 (ji25)).size + 1 + t110.size ≤ 9223372036854775807 := (by have h_ := c30; simp only [ByteArray.size_append, strOfNums_size] at h_; exact h_); have c30b4 := eq_true c30b3; (try have c30b5 := decide_eq_true c30b3); (try have c30b6 := eq_false (Nat.not_lt.2 c30b3))))
      obtain rfl := Option.some.inj H
      try go_wp2_with (first | ((with_reducible refine gate_callee (f := 43) rfl ?_); refine goesL_ (some 12) rfl rfl Tryz.func43 (by kernel_rfl) rfl #[.int .i64 a0_0, .int .i64 0, .int .i64 ji25] rfl (by (try simp only [List.map_toArray, List.map_cons, List.map_nil]); first | done | (simp only [hji25]; rfl) | rfl | (simp only [List.length_drop, List.length_take]; rfl)) ?_; (with_reducible refine (spec_l1In.calls a0_0 0 ji25 false _ A2.out).mono ?_); rintro e w' ⟨rfl, ⟨nd, rfl⟩⟩; refine ⟨_, rfl, ?_⟩))
      (try (rw [drewN_self wz2]; generalize hq_ : World.drewN wz2 _ = wz2; have nz1 : Aside0 (Kd.R Kd.string 9 wz2 w.heap.size (fun _ => True) (.slice Aoz1 y102.length coz1) y102) := ⟨by rw [← hq_]; exact (rX HOz1.out)⟩; have nz2 : Aside0 (wz2.heap[gbz1]? = some (.cells #[.int .i64 a0_0, .slice A0_1 l0_1.length c0_1] 71 (0, 0))) := ⟨by rw [← hq_]; exact (bX BKz1.out)⟩; have nz3 : Aside0 (Below w.heap.size w wz2) := ⟨by rw [← hq_]; exact (hX HB.out)⟩; clear HOz1 BKz1 HB hq_; have HOz1 := nz1; have BKz1 := nz2; have HB := nz3; clear nz1 nz2 nz3))
      replace HOz1 := Aside0.mk (Kd.R_drew HOz1.out)
      replace BKz1 := Aside0.mk (blk_drew BKz1.out)
      replace HB := Aside0.mk (below_drew1 HB.out)
      have pz1 : 0 ≤ ((ji25) : Int) := of_decide_eq_true (by first | (with_reducible assumption) | assumption)
      have qz1 : (ji25) < (y102.length : Int) := of_decide_eq_true (by first | (with_reducible assumption) | assumption)
      obtain ⟨adz1, ez1, hxz1⟩ := Kd.at_string (Kd.R_reads' HOz1.out).2.2 (ji25) pz1 qz1
      cases ez1
      replace pz1 := eq_true pz1
      replace qz1 := eq_true qz1
      refine start_ (n := 10) (S := fun w' => w'.cell? ⟨gbz1, 0, none⟩ = some (.int .i64 a0_0) ∧ w'.cell? ⟨gbz1, 1, none⟩ = some (.slice A0_1 l0_1.length c0_1) ∧ w'.cell? (adz1.add ((ji25)).toNat) = some (.string (rdOf ByteArray.empty y102 (ji25)))) (ds := []) (bm 10 0) (by kernel_rfl) rfl (by kernel_rfl) ⟨cK BKz1.out 0, cK BKz1.out 1, hxz1⟩ (fun hHeld => ?_); refine with_tabW spec_ResText.tab6 spec_ResText.bits6 (fun HT_ HW_ => ?_)
      generalize wz2.drew = wz3 at HOz1 BKz1 HB hxz1 hHeld ⊢
      refine pZ 0 21 (bm 10 1) HT_.out ?_
      refine pZ 1 22 (bm 10 3) HT_.out ?_
      refine pZ 2 23 (bm 10 7) HT_.out ?_
      refine pZ 5 26 (bm 10 39) HT_.out ?_
      refine tZ 3 24 (bm 10 47) HT_.out HW_.out hHeld ?_
      refine pZ 4 25 (bm 10 63) HT_.out ?_
      refine tZ 6 27 (bm 10 127) HT_.out HW_.out hHeld ?_
      refine oZ 7 (some 28) (bm 10 255) HT_.out (fun K hK => ?_)
      refine goesN Tryz.func113 #[.slice A0_1 l0_1.length c0_1] ?_
      with_reducible refine (spec_NumsText.calls k _ _ l0_1 t110 _ ?side1 ?side2 A29.out).mono ?_
      (case side1 => repeat (first | exact (Kd.C_below HR0_1.out HB.out) | (with_reducible refine Kd.C_alloc ?_ _) | (with_reducible refine Kd.C_drewN ?_ _) | (with_reducible refine Kd.C_drew ?_)))
      (case side2 => exact HC0_1.out)
      rintro e wz4 ⟨rfl, hb⟩
      have HSz1 := (hb.cell (World.block_lt_of_cell? _ _ (hHeld.2.2))).trans (hHeld.2.2)
      refine ⟨_, rfl, ?_⟩
      replace HOz1 := Aside0.mk (Kd.R_below (rX HOz1.out) hb)
      replace BKz1 := Aside0.mk (blk_below (bX BKz1.out) hb)
      replace HB := Aside0.mk (below_step (hX HB.out) hb)
      (try clear hb)
      (try clear hb2)
      (try clear hk)
      (try clear hi)
      refine hK.out _ _ ⟨cK BKz1.out 0, cK BKz1.out 1, HSz1⟩ (fun hHeld => ?_)
      clear hK K
      refine nZ 28 ?_
      refine pZ 8 29 (bm 10 511) HT_.out ?_
      refine pZ 9 2 (bm 10 1023) HT_.out ?_
      refine done_ (done_of HT_.out (by kernel_rfl)) ?_
      try go_wp2
      go_ret
      exact ⟨by first | rfl | (simp [errW_none, errW_some] <;> rfl) | (simp only [← hji25]; first | rfl | (simp [errW_none, errW_some] <;> rfl)) | (simp [*, errW_none, errW_some] <;> rfl), (hX HB.out)⟩
    · rw [if_neg c24] at H
      have c24b0 := decide_eq_false c24
      have c24b1 : decide (0 < l0_1.length) = false := decide_eq_false (by omega)
      clear c24
      obtain ⟨ji38, hji38⟩ : ∃ j_ : Int, (wrap64 ((y102.length : Int) - 1)) = j_ := ⟨_, rfl⟩
      replace H : (if 0 ≤ (ji38) then (if (ji38) < (y102.length : Int) then (some (rdOf ByteArray.empty y102 (ji38))) else (none)) else (none)) = some r := by first | (rw [hji38] at H; exact H) | (simp only [hji38] at H ⊢; exact H)
      (try rw [hji38] at A2)
      have hji38w : (IntKind.i64.wrap ((y102.length : Int) - 1)) = ji38 := (i64_w _).trans hji38
      replace H := ifP H; obtain ⟨c39, H⟩ := H
      have c39b0 := decide_eq_true c39
      clear c39
      replace H := ifP H; obtain ⟨c40, H⟩ := H
      have c40b0 := decide_eq_true c40
      clear c40
      obtain rfl := Option.some.inj H
      go_wp2_with (first | ((with_reducible refine gate_callee (f := 43) rfl ?_); refine goesL_ (some 12) rfl rfl Tryz.func43 (by kernel_rfl) rfl #[.int .i64 a0_0, .int .i64 0, .int .i64 ji38] rfl (by (try simp only [List.map_toArray, List.map_cons, List.map_nil]); first | done | (simp only [hji38]; rfl) | rfl | (simp only [List.length_drop, List.length_take]; rfl)) ?_; (with_reducible refine (spec_l1In.calls a0_0 0 ji38 false _ A2.out).mono ?_); rintro e w' ⟨rfl, ⟨nd, rfl⟩⟩; refine ⟨_, rfl, ?_⟩; have pz1 : 0 ≤ ((ji38) : Int) := of_decide_eq_true (by first | (with_reducible assumption) | assumption); have qz1 : (ji38) < (y102.length : Int) := of_decide_eq_true (by first | (with_reducible assumption) | assumption); obtain ⟨adz1, ez1, hxz1⟩ := Kd.at_string (Kd.R_reads' HOz1.out).2.2 (ji38) pz1 qz1; cases ez1; replace pz1 := eq_true pz1; replace qz1 := eq_true qz1))
      go_ret
      exact ⟨by first | rfl | (simp [errW_none, errW_some] <;> rfl) | (simp only [← hji38]; first | rfl | (simp [errW_none, errW_some] <;> rfl)) | (simp [*, errW_none, errW_some] <;> rfl), (hX HB.out)⟩
end Go.Proofs.YtmljebgideecjaaGreat.P
namespace Go.Proofs.YtmljebgideecjaaGreat.P
open Go.Proofs.YtmljebgideecjaaGreatZ Go.RowKit Go.Proofs.YtmljebgideecjaaGreatW.PrintWords Go.Proofs.YtmljebgideecjaaGreatW.PrintLast Go.Proofs.YtmljebgideecjaaGreatW.PrintMore
attribute [local go_sem] max2_int min2_int max_two min_two max_three min_three max_four min_four   -- for this text's walks alone
set_option linter.unusedVariables false
set_option linter.unusedSimpArgs false
def spec_CallText.f (k : Nat) (a0_0 : Int) (a0_1 : Int) (a0_2 : Int) (a0_3 : Int) (a0_4 : Int) (a0_5 : Int) (a0_6 : Int) (a0_7 : Int) (l0_8 : List Int) : Option (ByteArray) := (spec_Digits.f k a0_0).bind fun t102 => (if t102.size + 1 ≤ 9223372036854775807 then ((spec_OpText.f k a0_1 a0_2 a0_3).bind fun t103 => (if (t102 ++ (⟨#[32]⟩ : ByteArray)).size + t103.size ≤ 9223372036854775807 then (if ((t102 ++ (⟨#[32]⟩ : ByteArray)) ++ t103).size + 2 ≤ 9223372036854775807 then (if a0_6 < 0 then (if (((t102 ++ (⟨#[32]⟩ : ByteArray)) ++ t103) ++ (⟨#[58, 32]⟩ : ByteArray)).size + 4 ≤ 9223372036854775807 then (some ((((t102 ++ (⟨#[32]⟩ : ByteArray)) ++ t103) ++ (⟨#[58, 32]⟩ : ByteArray)) ++ (⟨#[111, 112, 101, 110]⟩ : ByteArray))) else (none)) else ((spec_ResText.f k a0_7 l0_8).bind fun t104 => (if (((t102 ++ (⟨#[32]⟩ : ByteArray)) ++ t103) ++ (⟨#[58, 32]⟩ : ByteArray)).size + t104.size ≤ 9223372036854775807 then (some ((((t102 ++ (⟨#[32]⟩ : ByteArray)) ++ t103) ++ (⟨#[58, 32]⟩ : ByteArray)) ++ t104)) else (none)))) else (none)) else (none))) else (none))
def spec_CallText.T1 : Bool × List (List Nat × List Nat) := (true, [([], []), ([0], [0]), ([1], [1]), ([2], [2]), ([], []), ([4], [4]), ([5, 2], [5]), ([3, 6], [3, 6]), ([7], [7]), ([8, 6, 0, 1, 2, 3, 4, 5, 6, 7, 8], [8])])
def spec_CallText.B1 : List Nat := [0, 1, 3, 7, 0, 16, 55, 127, 255, 511]
theorem spec_CallText.tab1 : rtab .any (opsOf Tryz.f57 1) = spec_CallText.T1 := by kernel_rfl
theorem spec_CallText.bits1 : waitsOk spec_CallText.T1.2 spec_CallText.B1 = true := by kernel_rfl
set_option maxHeartbeats 8000000 in
set_option maxRecDepth 100000 in
theorem spec_CallText.calls (k : Nat) (a0_0 : Int) (a0_1 : Int) (a0_2 : Int) (a0_3 : Int) (a0_4 : Int) (a0_5 : Int) (a0_6 : Int) (a0_7 : Int) (A0_8 : Option Addr) (c0_8 : Nat) (l0_8 : List Int) (r : ByteArray) (w : World) (hr0_8 : Kd.C (Kd.int .i64) w A0_8 l0_8.length l0_8) (hc0_8 : l0_8.length ≤ c0_8) (h : spec_CallText.f k a0_0 a0_1 a0_2 a0_3 a0_4 a0_5 a0_6 a0_7 l0_8 = some r) :
    Calls Tryz.prog 57 #[.agg #[.int .i64 a0_0, .int .i64 a0_1, .int .i64 a0_2, .int .i64 a0_3, .int .i64 a0_4, .int .i64 a0_5, .int .i64 a0_6, .int .i64 a0_7, .slice A0_8 l0_8.length c0_8]] w fun e w' => e = .returned (.string r) ∧ Below w.heap.size w w' := by
  have hu73 := Tryz.underlying73
  have hu69 := Tryz.underlying69
  have hu71 := Tryz.underlying71
  have HR0_8 := Aside0.mk hr0_8
  have HC0_8 := Aside0.mk hc0_8
  clear hr0_8 hc0_8
  have HB := Aside0.mk (Below.refl w.heap.size w)
  have H := h
  unfold spec_CallText.f at H
  clear h
  replace H := bE H; obtain ⟨t102, A2, H⟩ := H
  replace H := ifP H; obtain ⟨c3, H⟩ := H
  have c3b0 := eq_true c3
  have c3b1 := decide_eq_true c3
  try have c3b2 : (9223372036854775807 < t102.size + 1) = False := eq_false (Nat.not_lt.2 c3)
  replace H := bE H; obtain ⟨t103, A4, H⟩ := H
  replace H := ifP H; obtain ⟨c5, H⟩ := H
  have c5b0 := eq_true c5
  have c5b1 := decide_eq_true c5
  try have c5b2 : (9223372036854775807 < (t102 ++ (⟨#[32]⟩ : ByteArray)).size + t103.size) = False := eq_false (Nat.not_lt.2 c5)
  (try (have c5b3 : t102.size + 1 + t103.size ≤ 9223372036854775807 := (by have h_ := c5; simp only [ByteArray.size_append, strOfNums_size] at h_; exact h_); have c5b4 := eq_true c5b3; (try have c5b5 := decide_eq_true c5b3); (try have c5b6 := eq_false (Nat.not_lt.2 c5b3))))
  replace H := ifP H; obtain ⟨c6, H⟩ := H
  have c6b0 := eq_true c6
  have c6b1 := decide_eq_true c6
  try have c6b2 : (9223372036854775807 < ((t102 ++ (⟨#[32]⟩ : ByteArray)) ++ t103).size + 2) = False := eq_false (Nat.not_lt.2 c6)
  (try (have c6b3 : t102.size + 1 + t103.size + 2 ≤ 9223372036854775807 := (by have h_ := c6; simp only [ByteArray.size_append, strOfNums_size] at h_; exact h_); have c6b4 := eq_true c6b3; (try have c6b5 := decide_eq_true c6b3); (try have c6b6 := eq_false (Nat.not_lt.2 c6b3))))
  go_enter Tryz.func57, Tryz.ntmps57
  go_wp2_with (first | (refine boxE 1 #[.int .i64 a0_0, .int .i64 a0_1, .int .i64 a0_2, .int .i64 a0_3, .int .i64 a0_4, .int .i64 a0_5, .int .i64 a0_6, .int .i64 a0_7, .slice A0_8 l0_8.length c0_8] 73 ?_; intro gbz1 hg wz1 hbox hb; have BKz1 := Aside0.mk (hbox); have GWz1 := Aside0.mk (gX' hg (hX HB.out)); have GEz1 := Aside0.mk (gX' hg (hX HB.out)); replace HB := Aside0.mk (below_step (hX HB.out) hb); clear hb hbox hg; refine Stop.out ?_))
  refine ⟨?_⟩
  by_cases c7 : a0_6 < 0
  · rw [if_pos c7] at H
    have c7b0 := decide_eq_true c7
    clear c7
    replace H := ifP H; obtain ⟨c8, H⟩ := H
    have c8b0 := eq_true c8
    have c8b1 := decide_eq_true c8
    try have c8b2 : (9223372036854775807 < (((t102 ++ (⟨#[32]⟩ : ByteArray)) ++ t103) ++ (⟨#[58, 32]⟩ : ByteArray)).size + 4) = False := eq_false (Nat.not_lt.2 c8)
    (try (have c8b3 : t102.size + 1 + t103.size + 2 + 4 ≤ 9223372036854775807 := (by have h_ := c8; simp only [ByteArray.size_append, strOfNums_size] at h_; exact h_); have c8b4 := eq_true c8b3; (try have c8b5 := decide_eq_true c8b3); (try have c8b6 := eq_false (Nat.not_lt.2 c8b3))))
    obtain rfl := Option.some.inj H
    try go_wp2
    replace BKz1 := Aside0.mk (blk_drew BKz1.out)
    replace HB := Aside0.mk (below_drew1 HB.out)
    refine start_ (n := 10) (S := fun w' => w'.cell? ⟨gbz1, 0, none⟩ = some (.int .i64 a0_0) ∧ w'.cell? ⟨gbz1, 1, none⟩ = some (.int .i64 a0_1) ∧ w'.cell? ⟨gbz1, 2, none⟩ = some (.int .i64 a0_2) ∧ w'.cell? ⟨gbz1, 3, none⟩ = some (.int .i64 a0_3) ∧ w'.cell? ⟨gbz1, 4, none⟩ = some (.int .i64 a0_4) ∧ w'.cell? ⟨gbz1, 5, none⟩ = some (.int .i64 a0_5) ∧ w'.cell? ⟨gbz1, 6, none⟩ = some (.int .i64 a0_6) ∧ w'.cell? ⟨gbz1, 7, none⟩ = some (.int .i64 a0_7) ∧ w'.cell? ⟨gbz1, 8, none⟩ = some (.slice A0_8 l0_8.length c0_8)) (ds := []) (bm 10 0) (by kernel_rfl) rfl (by kernel_rfl) ⟨cK BKz1.out 0, cK BKz1.out 1, cK BKz1.out 2, cK BKz1.out 3, cK BKz1.out 4, cK BKz1.out 5, cK BKz1.out 6, cK BKz1.out 7, cK BKz1.out 8⟩ (fun hHeld => ?_); refine with_tabW spec_CallText.tab1 spec_CallText.bits1 (fun HT_ HW_ => ?_)
    generalize wz1.drew = wz2 at BKz1 HB hHeld ⊢
    refine pZ 0 4 (bm 10 1) HT_.out ?_
    refine pZ 4 8 (bm 10 17) HT_.out ?_
    refine tZ 1 5 (bm 10 19) HT_.out HW_.out hHeld ?_
    refine tZ 5 9 (bm 10 51) HT_.out HW_.out hHeld ?_
    refine oZ 2 (some 6) (bm 10 55) HT_.out (fun K hK => ?_)
    refine goesN Tryz.func114 #[.int .i64 a0_0] ?_
    with_reducible refine (spec_Digits.calls k a0_0 t102 _ A2.out).mono ?_
    rintro e wz3 ⟨rfl, hb⟩
    refine ⟨_, rfl, ?_⟩
    replace BKz1 := Aside0.mk (blk_below (bX BKz1.out) hb)
    replace HB := Aside0.mk (below_step (hX HB.out) hb)
    (try clear hb)
    (try clear hb2)
    (try clear hk)
    (try clear hi)
    refine hK.out _ _ ⟨cK BKz1.out 0, cK BKz1.out 1, cK BKz1.out 2, cK BKz1.out 3, cK BKz1.out 4, cK BKz1.out 5, cK BKz1.out 6, cK BKz1.out 7, cK BKz1.out 8⟩ (fun hHeld => ?_)
    clear hK K
    refine nZ 6 ?_
    refine pZ 3 7 (bm 10 63) HT_.out ?_
    refine oZ 6 (some 10) (bm 10 127) HT_.out (fun K hK => ?_)
    refine goesN Tryz.func117 #[.agg #[.int .i64 a0_1, .int .i64 a0_2, .int .i64 a0_3]] ?_
    with_reducible refine (spec_OpText.calls k a0_1 a0_2 a0_3 t103 _ A4.out).mono ?_
    rintro e wz4 ⟨rfl, hb⟩
    refine ⟨_, rfl, ?_⟩
    replace BKz1 := Aside0.mk (blk_below (bX BKz1.out) hb)
    replace HB := Aside0.mk (below_step (hX HB.out) hb)
    (try clear hb)
    (try clear hb2)
    (try clear hk)
    (try clear hi)
    refine hK.out _ _ ⟨cK BKz1.out 0, cK BKz1.out 1, cK BKz1.out 2, cK BKz1.out 3, cK BKz1.out 4, cK BKz1.out 5, cK BKz1.out 6, cK BKz1.out 7, cK BKz1.out 8⟩ (fun hHeld => ?_)
    clear hK K
    refine nZ 10 ?_
    refine pZ 7 11 (bm 10 255) HT_.out ?_
    refine pZ 8 12 (bm 10 511) HT_.out ?_
    refine pZ 9 3 (bm 10 1023) HT_.out ?_
    refine done_ (done_of HT_.out (by kernel_rfl)) ?_
    obtain ⟨hczz1, hczz2, hczz3, hczz4, hczz5, hczz6, hczz7, hczz8, hczz9, hfzz1, hfzz2, hfzz3, hfzz4, hfzz5, hfzz6, hfzz7, hfzz8, hfzz9⟩ := cZ9 BKz1.out
    try go_wp2
    go_ret
    exact ⟨rE, (hX HB.out)⟩
  · rw [if_neg c7] at H
    have c7b0 := decide_eq_false c7
    clear c7
    replace H := bE H; obtain ⟨t104, A14, H⟩ := H
    replace H := ifP H; obtain ⟨c15, H⟩ := H
    have c15b0 := eq_true c15
    have c15b1 := decide_eq_true c15
    try have c15b2 : (9223372036854775807 < (((t102 ++ (⟨#[32]⟩ : ByteArray)) ++ t103) ++ (⟨#[58, 32]⟩ : ByteArray)).size + t104.size) = False := eq_false (Nat.not_lt.2 c15)
    (try (have c15b3 : t102.size + 1 + t103.size + 2 + t104.size ≤ 9223372036854775807 := (by have h_ := c15; simp only [ByteArray.size_append, strOfNums_size] at h_; exact h_); have c15b4 := eq_true c15b3; (try have c15b5 := decide_eq_true c15b3); (try have c15b6 := eq_false (Nat.not_lt.2 c15b3))))
    obtain rfl := Option.some.inj H
    try go_wp2
    replace BKz1 := Aside0.mk (blk_drew BKz1.out)
    replace HB := Aside0.mk (below_drew1 HB.out)
    refine start_ (n := 10) (S := fun w' => w'.cell? ⟨gbz1, 0, none⟩ = some (.int .i64 a0_0) ∧ w'.cell? ⟨gbz1, 1, none⟩ = some (.int .i64 a0_1) ∧ w'.cell? ⟨gbz1, 2, none⟩ = some (.int .i64 a0_2) ∧ w'.cell? ⟨gbz1, 3, none⟩ = some (.int .i64 a0_3) ∧ w'.cell? ⟨gbz1, 4, none⟩ = some (.int .i64 a0_4) ∧ w'.cell? ⟨gbz1, 5, none⟩ = some (.int .i64 a0_5) ∧ w'.cell? ⟨gbz1, 6, none⟩ = some (.int .i64 a0_6) ∧ w'.cell? ⟨gbz1, 7, none⟩ = some (.int .i64 a0_7) ∧ w'.cell? ⟨gbz1, 8, none⟩ = some (.slice A0_8 l0_8.length c0_8)) (ds := []) (bm 10 0) (by kernel_rfl) rfl (by kernel_rfl) ⟨cK BKz1.out 0, cK BKz1.out 1, cK BKz1.out 2, cK BKz1.out 3, cK BKz1.out 4, cK BKz1.out 5, cK BKz1.out 6, cK BKz1.out 7, cK BKz1.out 8⟩ (fun hHeld => ?_); refine with_tabW spec_CallText.tab1 spec_CallText.bits1 (fun HT_ HW_ => ?_)
    generalize wz1.drew = wz2 at BKz1 HB hHeld ⊢
    refine pZ 0 4 (bm 10 1) HT_.out ?_
    refine pZ 4 8 (bm 10 17) HT_.out ?_
    refine tZ 1 5 (bm 10 19) HT_.out HW_.out hHeld ?_
    refine tZ 5 9 (bm 10 51) HT_.out HW_.out hHeld ?_
    refine oZ 2 (some 6) (bm 10 55) HT_.out (fun K hK => ?_)
    refine goesN Tryz.func114 #[.int .i64 a0_0] ?_
    with_reducible refine (spec_Digits.calls k a0_0 t102 _ A2.out).mono ?_
    rintro e wz3 ⟨rfl, hb⟩
    refine ⟨_, rfl, ?_⟩
    replace BKz1 := Aside0.mk (blk_below (bX BKz1.out) hb)
    replace HB := Aside0.mk (below_step (hX HB.out) hb)
    (try clear hb)
    (try clear hb2)
    (try clear hk)
    (try clear hi)
    refine hK.out _ _ ⟨cK BKz1.out 0, cK BKz1.out 1, cK BKz1.out 2, cK BKz1.out 3, cK BKz1.out 4, cK BKz1.out 5, cK BKz1.out 6, cK BKz1.out 7, cK BKz1.out 8⟩ (fun hHeld => ?_)
    clear hK K
    refine nZ 6 ?_
    refine pZ 3 7 (bm 10 63) HT_.out ?_
    refine oZ 6 (some 10) (bm 10 127) HT_.out (fun K hK => ?_)
    refine goesN Tryz.func117 #[.agg #[.int .i64 a0_1, .int .i64 a0_2, .int .i64 a0_3]] ?_
    with_reducible refine (spec_OpText.calls k a0_1 a0_2 a0_3 t103 _ A4.out).mono ?_
    rintro e wz4 ⟨rfl, hb⟩
    refine ⟨_, rfl, ?_⟩
    replace BKz1 := Aside0.mk (blk_below (bX BKz1.out) hb)
    replace HB := Aside0.mk (below_step (hX HB.out) hb)
    (try clear hb)
    (try clear hb2)
    (try clear hk)
    (try clear hi)
    refine hK.out _ _ ⟨cK BKz1.out 0, cK BKz1.out 1, cK BKz1.out 2, cK BKz1.out 3, cK BKz1.out 4, cK BKz1.out 5, cK BKz1.out 6, cK BKz1.out 7, cK BKz1.out 8⟩ (fun hHeld => ?_)
    clear hK K
    refine nZ 10 ?_
    refine pZ 7 11 (bm 10 255) HT_.out ?_
    refine pZ 8 12 (bm 10 511) HT_.out ?_
    refine pZ 9 3 (bm 10 1023) HT_.out ?_
    refine done_ (done_of HT_.out (by kernel_rfl)) ?_
    obtain ⟨hczz1, hczz2, hczz3, hczz4, hczz5, hczz6, hczz7, hczz8, hczz9, hfzz1, hfzz2, hfzz3, hfzz4, hfzz5, hfzz6, hfzz7, hfzz8, hfzz9⟩ := cZ9 BKz1.out
    try go_wp2_with (first | (refine goesM 118 21 Tryz.func118 #[.agg #[.int .i64 a0_7, .slice A0_8 l0_8.length c0_8]] ?_; refine (spec_ResText.calls k a0_7 _ _ l0_8 t104 _ (cC HR0_8.out HB.out) HC0_8.out A14.out).mono ?_; rintro e wz5 ⟨rfl, hb⟩; refine ⟨_, rfl, ?_⟩; replace BKz1 := Aside0.mk (blk_below (bX BKz1.out) hb); replace HB := Aside0.mk (below_step (hX HB.out) hb); clear hb))
    go_ret
    exact ⟨rE, (hX HB.out)⟩
end Go.Proofs.YtmljebgideecjaaGreat.P
namespace Go.Proofs.YtmljebgideecjaaGreat.P
open Go.Proofs.YtmljebgideecjaaGreatZ Go.RowKit Go.Proofs.YtmljebgideecjaaGreatW.PrintWords Go.Proofs.YtmljebgideecjaaGreatW.PrintLast Go.Proofs.YtmljebgideecjaaGreatW.PrintMore
attribute [local go_sem] max2_int min2_int max_two min_two max_three min_three max_four min_four   -- for this text's walks alone
set_option linter.unusedVariables false
set_option linter.unusedSimpArgs false
def spec_MachineText.l0 : Nat → ByteArray → Int → List (S140) → List (S162) → List (S97) → Int → List (S73) → List Int → List Int → Int → Option (ByteArray)
  | 0, _, _, _, _, _, _, _, _, _, _ => none
  | k + 1, x3, x4, x102000, x102001, x102002, x102003, x102004, x102005, x102006, x102007 => if x4 < (x102004.length : Int) then (if 0 ≤ x4 then ((spec_CallText.f k ((rd_T73 x102004 x4).f0) ((rd_T73 x102004 x4).f1.f0) ((rd_T73 x102004 x4).f1.f1) ((rd_T73 x102004 x4).f1.f2) ((rd_T73 x102004 x4).f2) ((rd_T73 x102004 x4).f3) ((rd_T73 x102004 x4).f4) ((rd_T73 x102004 x4).f5.f0) ((rd_T73 x102004 x4).f5.f1)).bind fun t111 => (if x3.size + t111.size ≤ 9223372036854775807 then (if (x3 ++ t111).size + 1 ≤ 9223372036854775807 then (spec_MachineText.l0 k ((x3 ++ t111) ++ (⟨#[10]⟩ : ByteArray)) (wrap64 (x4 + 1)) x102000 x102001 x102002 x102003 x102004 x102005 x102006 x102007) else (none)) else (none))) else (none)) else (some x3)
def spec_MachineText.f (k : Nat) (l0_0 : List (S140)) (l0_1 : List (S162)) (l0_2 : List (S97)) (a0_3 : Int) (l0_4 : List (S73)) (l0_5 : List Int) (l0_6 : List Int) (a0_7 : Int) : Option (ByteArray) := (spec_Meaning.f k l0_0 l0_1).bind fun t102 => ((spec_RowsIn.f t102).bind fun bt105 => ((spec_RowsText.f k bt105.1 bt105.2).bind fun t109 => (if t109.size + 1 ≤ 9223372036854775807 then (spec_MachineText.l0 k (t109 ++ (⟨#[10]⟩ : ByteArray)) 0 l0_0 l0_1 l0_2 a0_3 l0_4 l0_5 l0_6 a0_7) else (none))))
set_option maxHeartbeats 8000000 in
set_option maxRecDepth 100000 in
theorem spec_MachineText.calls (k : Nat) (A0_0 : Option Addr) (c0_0 : Nat) (l0_0 : List (S140)) (A0_1 : Option Addr) (c0_1 : Nat) (l0_1 : List (S162)) (A0_2 : Option Addr) (c0_2 : Nat) (l0_2 : List (S97)) (a0_3 : Int) (A0_4 : Option Addr) (c0_4 : Nat) (l0_4 : List (S73)) (A0_5 : Option Addr) (c0_5 : Nat) (l0_5 : List Int) (A0_6 : Option Addr) (c0_6 : Nat) (l0_6 : List Int) (a0_7 : Int) (r : ByteArray) (w : World) (hr0_0 : Kd.C k140 w A0_0 l0_0.length l0_0) (hc0_0 : l0_0.length ≤ c0_0) (hr0_1 : Kd.C k162 w A0_1 l0_1.length l0_1) (hc0_1 : l0_1.length ≤ c0_1) (hr0_2 : Kd.C k97 w A0_2 l0_2.length l0_2) (hc0_2 : l0_2.length ≤ c0_2) (hr0_4 : Kd.C k73 w A0_4 l0_4.length l0_4) (hc0_4 : l0_4.length ≤ c0_4) (hr0_5 : Kd.C (Kd.int .i64) w A0_5 l0_5.length l0_5) (hc0_5 : l0_5.length ≤ c0_5) (hr0_6 : Kd.C (Kd.int .i64) w A0_6 l0_6.length l0_6) (hc0_6 : l0_6.length ≤ c0_6) (h : spec_MachineText.f k l0_0 l0_1 l0_2 a0_3 l0_4 l0_5 l0_6 a0_7 = some r) :
    Calls Tryz.prog 15 #[.agg #[.slice A0_0 l0_0.length c0_0, .slice A0_1 l0_1.length c0_1, .slice A0_2 l0_2.length c0_2, .int .i64 a0_3, .slice A0_4 l0_4.length c0_4, .slice A0_5 l0_5.length c0_5, .slice A0_6 l0_6.length c0_6, .int .i64 a0_7]] w fun e w' => e = .returned (.string r) ∧ Below w.heap.size w w' := by
  have hu43 := Tryz.underlying43
  have hu73 := Tryz.underlying73
  have HR0_0 := Aside0.mk hr0_0
  have HC0_0 := Aside0.mk hc0_0
  clear hr0_0 hc0_0
  have HR0_1 := Aside0.mk hr0_1
  have HC0_1 := Aside0.mk hc0_1
  clear hr0_1 hc0_1
  have HR0_2 := Aside0.mk hr0_2
  have HC0_2 := Aside0.mk hc0_2
  clear hr0_2 hc0_2
  have HR0_4 := Aside0.mk hr0_4
  have HC0_4 := Aside0.mk hc0_4
  clear hr0_4 hc0_4
  have HR0_5 := Aside0.mk hr0_5
  have HC0_5 := Aside0.mk hc0_5
  clear hr0_5 hc0_5
  have HR0_6 := Aside0.mk hr0_6
  have HC0_6 := Aside0.mk hc0_6
  clear hr0_6 hc0_6
  have HB := Aside0.mk (Below.refl w.heap.size w)
  have H := h
  unfold spec_MachineText.f at H
  clear h
  replace H := bE H; obtain ⟨t102, A2, H⟩ := H
  replace H := bE H; obtain ⟨⟨t105, t108⟩, A3, H⟩ := H
  try dsimp only at H
  replace H := bE H; obtain ⟨t109, A4, H⟩ := H
  replace H := ifP H; obtain ⟨c5, H⟩ := H
  have c5b0 := eq_true c5
  have c5b1 := decide_eq_true c5
  try have c5b2 : (9223372036854775807 < t109.size + 1) = False := eq_false (Nat.not_lt.2 c5)
  have H' := Aside0.mk H
  clear H
  go_enter Tryz.func15, Tryz.ntmps15
  go_wp2_with (first | (refine boxE 1 #[.slice A0_0 l0_0.length c0_0, .slice A0_1 l0_1.length c0_1, .slice A0_2 l0_2.length c0_2, .int .i64 a0_3, .slice A0_4 l0_4.length c0_4, .slice A0_5 l0_5.length c0_5, .slice A0_6 l0_6.length c0_6, .int .i64 a0_7] 43 ?_; intro gbz1 hg wz1 hbox hb; have BKz1 := Aside0.mk (hbox); have GWz1 := Aside0.mk (gX' hg (hX HB.out)); have GEz1 := Aside0.mk (gX' hg (hX HB.out)); replace HB := Aside0.mk (below_step (hX HB.out) hb); clear hb hbox hg; obtain ⟨hczz1, hczz2, hczz3, hczz4, hczz5, hczz6, hczz7, hczz8, hfzz1, hfzz2, hfzz3, hfzz4, hfzz5, hfzz6, hfzz7, hfzz8⟩ := cZ8 BKz1.out) | (refine goesM 56 11 Tryz.func56 #[.slice A0_0 l0_0.length c0_0, .slice A0_1 l0_1.length c0_1] ?_; refine (spec_Meaning.calls k _ _ l0_0 _ _ l0_1 t102 _ (cC HR0_0.out HB.out) HC0_0.out (cC HR0_1.out HB.out) HC0_1.out A2.out).mono ?_; rintro e wz2 ⟨vz1, rfl, hoz1, hb⟩; refine ⟨_, rfl, ?_⟩; have HOz1 := Aside0.mk (Kd.R_lower hoz1 (below_size (hX HB.out))); replace BKz1 := Aside0.mk (blk_below (bX BKz1.out) hb); replace HB := Aside0.mk (below_step (hX HB.out) hb); clear hb hoz1; obtain ⟨Aoz1, coz1, eoz1⟩ := Kd.R_slice HOz1.out; subst eoz1) | (refine goesM 55 12 Tryz.func55 #[.slice Aoz1 t102.length coz1] ?_; refine (spec_RowsIn.calls _ _ t102 t105 t108 _ (cX (Kd.R_reads' HOz1.out).2.2) ((Kd.R_reads' HOz1.out).2.1) A3.out).mono ?_; rintro e wz3 ⟨vz2, rfl, hoz1, hb⟩; refine ⟨_, rfl, ?_⟩; have HOz2 := Aside0.mk (Kd.R_lower (Kd.R_new' hoz1 (Kd.R_lt (rX HOz1.out))) (below_size (hX HB.out))); replace HOz1 := Aside0.mk (Kd.R_elder' (rX HOz1.out) (Kd.R_base hoz1) hb); replace BKz1 := Aside0.mk (blk_below (bX BKz1.out) hb); replace HB := Aside0.mk (below_step (hX HB.out) hb); clear hb hoz1; obtain ⟨Aoz2, coz2, eoz2⟩ := Kd.R_slice HOz2.out; subst eoz2) | (refine goesM 54 13 Tryz.func54 #[.agg #[.slice Aoz2 t105.length coz2, .int .i64 t108]] ?_; refine (spec_RowsText.calls k _ _ t105 t108 t109 _ (cX (Kd.R_reads' HOz2.out).2.2) ((Kd.R_reads' HOz2.out).2.1) A4.out).mono ?_; rintro e wz4 ⟨rfl, hb⟩; refine ⟨_, rfl, ?_⟩; replace HOz1 := Aside0.mk (Kd.R_below (rX HOz1.out) hb); replace HOz2 := Aside0.mk (Kd.R_below (rX HOz2.out) hb); replace BKz1 := Aside0.mk (blk_below (bX BKz1.out) hb); replace HB := Aside0.mk (below_step (hX HB.out) hb); clear hb))
  go_loopg [3, 4] k (fun kq v3 v4 w' => ∃ (x3_1 : ByteArray) (x4_1 : Int), v3 = .string x3_1 ∧ v4 = .int .i64 x4_1 ∧ Aside0 (spec_MachineText.l0 kq x3_1 x4_1 l0_0 l0_1 l0_2 a0_3 l0_4 l0_5 l0_6 a0_7 = some r) ∧ Aside0 (kq ≤ k) ∧ Aside0 (w'.heap[gbz1]? = some (.cells #[(.slice A0_0 l0_0.length c0_0), (.slice A0_1 l0_1.length c0_1), (.slice A0_2 l0_2.length c0_2), .int .i64 a0_3, (.slice A0_4 l0_4.length c0_4), (.slice A0_5 l0_5.length c0_5), (.slice A0_6 l0_6.length c0_6), .int .i64 a0_7] 43 (0, 0))) ∧ Aside0 (Below w.heap.size w w'))
  case atStart => exact ⟨(t109 ++ (⟨#[10]⟩ : ByteArray)), (0), rS, rS, H', ⟨Nat.le_refl _⟩, ⟨(bX BKz1.out)⟩, ⟨(hX HB.out)⟩⟩
  case round =>
    clear H'
    try clear c1
    try clear p2
    try clear c5
    try clear c5b0
    try clear c5b1
    try clear c5b2
    try clear hczz1
    try clear hczz2
    try clear hczz3
    try clear hczz4
    try clear hczz5
    try clear hczz6
    try clear hczz7
    try clear hczz8
    try clear hfzz1
    try clear hfzz2
    try clear hfzz3
    try clear hfzz4
    try clear hfzz5
    try clear hfzz6
    try clear hfzz7
    try clear hfzz8
    obtain ⟨x3_1, x4_1, rfl, rfl, HA, HKy1, BKz1, HB⟩ := hrel
    cases gk with
    | zero => exact absurd HA.out (by simp [spec_MachineText.l0])
    | succ k1 =>
      have H := HA.out
      clear HA
      simp only [spec_MachineText.l0] at H
      by_cases c13 : x4_1 < (l0_4.length : Int)
      · rw [if_pos c13] at H
        have c13b0 := decide_eq_true c13
        clear c13
        replace H := ifP H; obtain ⟨c14, H⟩ := H
        have c14b0 := decide_eq_true c14
        clear c14
        replace H := bE H; obtain ⟨t111, A15, H⟩ := H
        replace H := ifP H; obtain ⟨c16, H⟩ := H
        have c16b0 := eq_true c16
        have c16b1 := decide_eq_true c16
        try have c16b2 : (9223372036854775807 < x3_1.size + t111.size) = False := eq_false (Nat.not_lt.2 c16)
        replace H := ifP H; obtain ⟨c17, H⟩ := H
        have c17b0 := eq_true c17
        have c17b1 := decide_eq_true c17
        try have c17b2 : (9223372036854775807 < (x3_1 ++ t111).size + 1) = False := eq_false (Nat.not_lt.2 c17)
        (try (have c17b3 : x3_1.size + t111.size + 1 ≤ 9223372036854775807 := (by have h_ := c17; simp only [ByteArray.size_append, strOfNums_size] at h_; exact h_); have c17b4 := eq_true c17b3; (try have c17b5 := decide_eq_true c17b3); (try have c17b6 := eq_false (Nat.not_lt.2 c17b3))))
        have H' := Aside0.mk H
        clear H
        obtain ⟨hczx1, hczx2, hczx3, hczx4, hczx5, hczx6, hczx7, hczx8, hfzx1, hfzx2, hfzx3, hfzx4, hfzx5, hfzx6, hfzx7, hfzx8⟩ := cZ8 BKz1.out
        have px1 : 0 ≤ (x4_1 : Int) := of_decide_eq_true (by first | (with_reducible assumption) | assumption)
        have qx1 : x4_1 < (l0_4.length : Int) := of_decide_eq_true (by first | (with_reducible assumption) | assumption)
        obtain ⟨adx1, Ax1, cx1, ex1, hxx1, hxx2, hxx3, hxx4, hxx5, hxx6, hxx7, hxx8, hxx9, hlx1, hix1⟩ := at_T73 HR0_4.out x4_1 px1 qx1
        cases ex1
        replace hxx1 := (HB.out.cell (World.block_lt_of_cell? w _ hxx1)).trans hxx1
        replace hxx2 := (HB.out.cell (World.block_lt_of_cell? w _ hxx2)).trans hxx2
        replace hxx3 := (HB.out.cell (World.block_lt_of_cell? w _ hxx3)).trans hxx3
        replace hxx4 := (HB.out.cell (World.block_lt_of_cell? w _ hxx4)).trans hxx4
        replace hxx5 := (HB.out.cell (World.block_lt_of_cell? w _ hxx5)).trans hxx5
        replace hxx6 := (HB.out.cell (World.block_lt_of_cell? w _ hxx6)).trans hxx6
        replace hxx7 := (HB.out.cell (World.block_lt_of_cell? w _ hxx7)).trans hxx7
        replace hxx8 := (HB.out.cell (World.block_lt_of_cell? w _ hxx8)).trans hxx8
        replace hxx9 := (HB.out.cell (World.block_lt_of_cell? w _ hxx9)).trans hxx9
        have HRx1 := Aside0.mk hix1
        have HCx1 := Aside0.mk hlx1
        clear hix1 hlx1
        replace px1 := eq_true px1
        replace qx1 := eq_true qx1
        go_wp2_with (first | (refine goesM 57 28 Tryz.func57 #[.agg #[.int .i64 ((rd_T73 l0_4 x4_1).f0), .int .i64 ((rd_T73 l0_4 x4_1).f1.f0), .int .i64 ((rd_T73 l0_4 x4_1).f1.f1), .int .i64 ((rd_T73 l0_4 x4_1).f1.f2), .int .i64 ((rd_T73 l0_4 x4_1).f2), .int .i64 ((rd_T73 l0_4 x4_1).f3), .int .i64 ((rd_T73 l0_4 x4_1).f4), .int .i64 ((rd_T73 l0_4 x4_1).f5.f0), .slice Ax1 ((rd_T73 l0_4 x4_1).f5.f1).length cx1]] ?_; refine (spec_CallText.calls k1 ((rd_T73 l0_4 x4_1).f0) ((rd_T73 l0_4 x4_1).f1.f0) ((rd_T73 l0_4 x4_1).f1.f1) ((rd_T73 l0_4 x4_1).f1.f2) ((rd_T73 l0_4 x4_1).f2) ((rd_T73 l0_4 x4_1).f3) ((rd_T73 l0_4 x4_1).f4) ((rd_T73 l0_4 x4_1).f5.f0) _ _ ((rd_T73 l0_4 x4_1).f5.f1) t111 _ (cC HRx1.out HB.out) HCx1.out A15.out).mono ?_; rintro e wx1 ⟨rfl, hb⟩; refine ⟨_, rfl, ?_⟩; replace BKz1 := Aside0.mk (blk_below (bX BKz1.out) hb); replace HB := Aside0.mk (below_step (hX HB.out) hb); clear hb))
        go_roundg k1
        case measure => have := HKy1.out; omega
        case rel => exact ⟨((x3_1 ++ t111) ++ (⟨#[10]⟩ : ByteArray)), (wrap64 (x4_1 + 1)), rS, rS, H', ⟨by have := HKy1.out; omega⟩, ⟨(bX BKz1.out)⟩, ⟨(hX HB.out)⟩⟩
      · rw [if_neg c13] at H
        have c13b0 := decide_eq_false c13
        clear c13
        obtain rfl := Option.some.inj H
        obtain ⟨hczx1, hczx2, hczx3, hczx4, hczx5, hczx6, hczx7, hczx8, hfzx1, hfzx2, hfzx3, hfzx4, hfzx5, hfzx6, hfzx7, hfzx8⟩ := cZ8 BKz1.out
        go_wp2
        go_ret
        exact ⟨rE, (hX HB.out)⟩
end Go.Proofs.YtmljebgideecjaaGreat.P
namespace Go.Proofs.YtmljebgideecjaaGreat.P
open Go.Proofs.YtmljebgideecjaaGreatZ Go.RowKit Go.Proofs.YtmljebgideecjaaGreatW.PrintWords Go.Proofs.YtmljebgideecjaaGreatW.PrintLast Go.Proofs.YtmljebgideecjaaGreatW.PrintMore
attribute [local go_sem] max2_int min2_int max_two min_two max_three min_three max_four min_four   -- for this text's walks alone
set_option linter.unusedVariables false
set_option linter.unusedSimpArgs false
mutual
def impl_Digits.j0 : Nat → Int → Bool → Option (ByteArray)
  | 0, _, _ => none
  | k + 1, x0, x3 => if x3 = true then ((impl_Digits.f k (wrap64 (-x0))).bind fun t101 => (if 1 + t101.size ≤ 9223372036854775807 then (some ((⟨#[45]⟩ : ByteArray) ++ t101)) else (none))) else (if x0 < 0 then ((impl_Digits.f k (wrap64 (Int.tdiv x0 10))).bind fun t102 => ((impl_Digits.f k (wrap64 (-(Int.tmod x0 10)))).bind fun t103 => (if t102.size + t103.size ≤ 9223372036854775807 then (some (t102 ++ t103)) else (none)))) else (if x0 < 10 then (some (Go.Utf8.encode (wrap32 (wrap64 (48 + x0))))) else ((impl_Digits.f k (wrap64 (Int.tdiv x0 10))).bind fun t104 => (if t104.size + (Go.Utf8.encode (wrap32 (wrap64 (48 + (Int.tmod x0 10))))).size ≤ 9223372036854775807 then (some (t104 ++ (Go.Utf8.encode (wrap32 (wrap64 (48 + (Int.tmod x0 10))))))) else (none)))))
def impl_Digits.f : Nat → Int → Option (ByteArray)
  | 0, _ => none
  | k + 1, a0 => if a0 < 0 then (impl_Digits.j0 k a0 (decide (a0 > (-10)))) else (impl_Digits.j0 k a0 false)
end
set_option maxHeartbeats 8000000 in
set_option maxRecDepth 100000 in
theorem impl_Digits.calls (k : Nat) : ∀ (a0 : Int) (r : ByteArray) (w : World) (h : impl_Digits.f k a0 = some r),
    Calls Tryz.prog 120 #[.int .i64 a0] w fun e w' => e = .returned (.string r) ∧ Drawn0 w w' := by
  induction k using Nat.strongRecOn with
  | _ k ih =>
  intro a0 r w h
  cases k with
  | zero => exact absurd h (by simp [impl_Digits.f])
  | succ k =>
  simp only [impl_Digits.f] at h
  have H := h
  unfold impl_Digits.f at H
  clear h
  have HCz1 := Aside0.mk H
  clear H
  go_enter Tryz.func120, Tryz.ntmps120
  go_upto_region 1 with (fail)
  go_cut [3] (fun vz1 wc => ∃ (kq : Nat) (x3_1 : Bool), vz1 = .bool x3_1 ∧ Aside0 (impl_Digits.j0 kq a0 x3_1 = some r) ∧ Aside0 (kq ≤ k) ∧ Drawn0 w wc)
  case first =>
    have H := HCz1.out
    clear HCz1
    by_cases c3 : a0 < 0
    · rw [if_pos c3] at H
      have c3b0 := decide_eq_true c3
      clear c3
      (first | rw [c3b0] | (simp only [i64_w, i32_w]; rw [c3b0]) | skip)
      have H' := Aside0.mk H
      clear H
      go_wp2
      go_meet
      case rel => exact ⟨_, (decide (a0 > (-10))), rS, H', ⟨by first | omega | exact Nat.le_refl _⟩, dX⟩
    · rw [if_neg c3] at H
      have c3b0 := decide_eq_false c3
      clear c3
      (first | rw [c3b0] | (simp only [i64_w, i32_w]; rw [c3b0]) | skip)
      have H' := Aside0.mk H
      clear H
      go_wp2
      go_meet
      case rel => exact ⟨_, (false), rS, H', ⟨by first | omega | exact Nat.le_refl _⟩, dX⟩
  case rest =>
    clear HCz1
    try clear c1
    try clear p2
    try clear c3
    try clear c3b0
    obtain ⟨kq, x3_1, rfl, HA, HJy1, ⟨mcy1, rfl⟩⟩ := hcut
    cases kq with
    | zero => exact absurd HA.out (by simp [impl_Digits.j0])
    | succ kj1 =>
      have H := HA.out
      clear HA
      simp only [impl_Digits.j0] at H
      by_cases c4 : x3_1 = true
      · subst c4
        rw [if_pos rfl] at H
        replace H := bE H; obtain ⟨t101, A5, H⟩ := H
        replace H := ifP H; obtain ⟨c6, H⟩ := H
        have c6b0 := eq_true c6
        have c6b1 := decide_eq_true c6
        try have c6b2 : (9223372036854775807 < 1 + t101.size) = False := eq_false (Nat.not_lt.2 c6)
        obtain rfl := Option.some.inj H
        go_wp2_with (first | (refine goesM 120 12 Tryz.func120 #[.int .i64 (wrap64 (-a0))] ?_; refine (ih kj1 (by have := HJy1.out; omega) (wrap64 (-a0)) t101 _ A5.out).mono ?_; rintro e w' ⟨rfl, ⟨nd, rfl⟩⟩; refine ⟨_, rfl, ?_⟩))
        go_ret
        exact ⟨by first | rfl | (simp; done) | (simp [*]; done), dX⟩
      · replace c4 := Bool.eq_false_iff.mpr c4
        subst c4
        rw [if_neg nft] at H
        by_cases c7 : a0 < 0
        · rw [if_pos c7] at H
          have c7b0 := decide_eq_true c7
          clear c7
          replace H := bE H; obtain ⟨t102, A8, H⟩ := H
          replace H := bE H; obtain ⟨t103, A9, H⟩ := H
          replace H := ifP H; obtain ⟨c10, H⟩ := H
          have c10b0 := eq_true c10
          have c10b1 := decide_eq_true c10
          try have c10b2 : (9223372036854775807 < t102.size + t103.size) = False := eq_false (Nat.not_lt.2 c10)
          obtain rfl := Option.some.inj H
          go_wp2_with (first | (refine goesM 120 19 Tryz.func120 #[.int .i64 (wrap64 (Int.tdiv a0 10))] ?_; refine (ih kj1 (by have := HJy1.out; omega) (wrap64 (Int.tdiv a0 10)) t102 _ A8.out).mono ?_; rintro e w' ⟨rfl, ⟨nd, rfl⟩⟩; refine ⟨_, rfl, ?_⟩) | (refine goesM 120 23 Tryz.func120 #[.int .i64 (wrap64 (-(Int.tmod a0 10)))] ?_; refine (ih kj1 (by have := HJy1.out; omega) (wrap64 (-(Int.tmod a0 10))) t103 _ A9.out).mono ?_; rintro e w' ⟨rfl, ⟨nd, rfl⟩⟩; refine ⟨_, rfl, ?_⟩))
          go_ret
          exact ⟨by first | rfl | (simp; done) | (simp [*]; done), dX⟩
        · rw [if_neg c7] at H
          have c7b0 := decide_eq_false c7
          clear c7
          by_cases c11 : a0 < 10
          · rw [if_pos c11] at H
            have c11b0 := decide_eq_true c11
            clear c11
            obtain rfl := Option.some.inj H
            go_wp2
            go_ret
            exact ⟨by first | rfl | (simp; done) | (simp [*]; done), dX⟩
          · rw [if_neg c11] at H
            have c11b0 := decide_eq_false c11
            clear c11
            replace H := bE H; obtain ⟨t104, A12, H⟩ := H
            replace H := ifP H; obtain ⟨c13, H⟩ := H
            have c13b0 := eq_true c13
            have c13b1 := decide_eq_true c13
            try have c13b2 : (9223372036854775807 < t104.size + (Go.Utf8.encode (wrap32 (wrap64 (48 + (Int.tmod a0 10))))).size) = False := eq_false (Nat.not_lt.2 c13)
            obtain rfl := Option.some.inj H
            go_wp2_with (first | (refine goesM 120 34 Tryz.func120 #[.int .i64 (wrap64 (Int.tdiv a0 10))] ?_; refine (ih kj1 (by have := HJy1.out; omega) (wrap64 (Int.tdiv a0 10)) t104 _ A12.out).mono ?_; rintro e w' ⟨rfl, ⟨nd, rfl⟩⟩; refine ⟨_, rfl, ?_⟩))
            go_ret
            exact ⟨by first | rfl | (simp; done) | (simp [*]; done), dX⟩
end Go.Proofs.YtmljebgideecjaaGreat.P
namespace Go.Proofs
open Go.Shelf
def Tryz.lays156_ren : Go.Shelf.Ren := ⟨fun | 156 => 194 | 165 => 216 | 166 => 217 | 169 => 218 | 240 => 221 | 241 => 222 | 276 => 223 | 277 => 224 | n => n, fun | 31 => 194 | 9 => 9 | 3 => 3 | 4 => 4 | 0 => 0 | 20 => 20 | 72 => 216 | 76 => 220 | 70 => 214 | 37 => 193 | 75 => 219 | 127 => 226 | 164 => 227 | 5 => 5 | 80 => 222 | n => n, fun | n => n⟩
theorem Tryz.lays156 : Go.Proofs.Lays.n156 Tryz.prog Tryz.lays156_ren := {
  mixed := by kernel_rfl
  f156 := Tryz.func194.trans (congrArg some (by kernel_rfl))
  f165 := Tryz.func216.trans (congrArg some (by kernel_rfl))
  f166 := Tryz.func217.trans (congrArg some (by kernel_rfl))
  f169 := Tryz.func218.trans (congrArg some (by kernel_rfl))
  f240 := Tryz.func221.trans (congrArg some (by kernel_rfl))
  f241 := Tryz.func222.trans (congrArg some (by kernel_rfl))
  f276 := Tryz.func223.trans (congrArg some (by kernel_rfl))
  f277 := Tryz.func224.trans (congrArg some (by kernel_rfl))
  t0 := Tryz.underlying0
  a0 := Tryz.isAgg0
  z0 := Tryz.sizeOf0
  v0 := Tryz.zeroValue0
  t3 := Tryz.underlying3
  a3 := Tryz.isAgg3
  z3 := Tryz.sizeOf3
  v3 := Tryz.zeroValue3
  t4 := Tryz.underlying4
  a4 := Tryz.isAgg4
  z4 := Tryz.sizeOf4
  v4 := Tryz.zeroValue4
  t9 := Tryz.underlying9
  a9 := Tryz.isAgg9
  z9 := Tryz.sizeOf9
  v9 := Tryz.zeroValue9
  t20 := Tryz.underlying20
  a20 := Tryz.isAgg20
  z20 := Tryz.sizeOf20
  v20 := Tryz.zeroValue20
  t31 := Tryz.underlying194
  a31 := Tryz.isAgg194
  z31 := Tryz.sizeOf194
  v31 := Tryz.zeroValue194
  t37 := Tryz.underlying193
  a37 := Tryz.isAgg193
  z37 := Tryz.sizeOf193
  v37 := Tryz.zeroValue193
  t70 := Tryz.underlying214
  a70 := Tryz.isAgg214
  z70 := Tryz.sizeOf214
  v70 := Tryz.zeroValue214
  t72 := Tryz.underlying216
  a72 := Tryz.isAgg216
  z72 := Tryz.sizeOf216
  v72 := Tryz.zeroValue216
  t75 := Tryz.underlying219
  a75 := Tryz.isAgg219
  z75 := Tryz.sizeOf219
  v75 := Tryz.zeroValue219
  t76 := Tryz.underlying220
  a76 := Tryz.isAgg220
  z76 := Tryz.sizeOf220
  v76 := Tryz.zeroValue220
  t127 := Tryz.underlying226
  a127 := Tryz.isAgg226
  z127 := Tryz.sizeOf226
  v127 := Tryz.zeroValue226
  t164 := Tryz.underlying227
  a164 := Tryz.isAgg227
  z164 := Tryz.sizeOf227
  v164 := Tryz.zeroValue227 }
theorem Tryz.Builder_Extra_156 : Builder.Extra Tryz.prog Tryz.lays156_ren := {
  sizeBuilder := by kernel_rfl
  liesBuilder := by kernel_rfl
  t5 := Tryz.underlying5
  a5 := Tryz.isAgg5
  z5 := Tryz.sizeOf5
  v5 := Tryz.zeroValue5
  infoByte := by kernel_rfl
  cellsByte := by kernel_rfl
  sizeByte := by kernel_rfl
  neB5 := by decide }
open Go.RowKit in
theorem Tryz.strings_Join_none (a : Option Addr) (c : Nat) (sep : ByteArray) (w : World) :
    Calls Tryz.prog 194 #[.slice a 0 c, .string sep] w fun e w' => e = .returned (.string ⟨#[]⟩) ∧ w' = w := Any.strings_Join_none Tryz.lays156 Tryz.Builder_Extra_156 a c sep w
open Go.RowKit in
theorem Tryz.strings_Join (bk o c : Nat) (xs : List ByteArray) (sep : ByteArray) (w : World) (hcells : ∀ (j : Nat) x, xs[j]? = some x → w.cell? ⟨bk, o + j, none⟩ = some (.string x)) (hbk : bk < w.heap.size) (hN : xs.length ≤ 140737488355328) (hcap : xs.length ≤ c) (hlen : (Lib.join (xs.map (·.data.toList)) sep.data.toList).length ≤ 140737488355328) :
    Calls Tryz.prog 194 #[.slice (some ⟨bk, o, none⟩) xs.length c, .string sep] w fun e w' => e = .returned (.string ⟨(Lib.join (xs.map (·.data.toList)) sep.data.toList).toArray⟩) ∧ Below w.heap.size w w' := Any.strings_Join Tryz.lays156 Tryz.Builder_Extra_156 bk o c xs sep w hcells hbk hN hcap hlen
def Tryz.laysNm215_ren : Go.Shelf.Ren := ⟨fun | 15 => 121 | n => n, fun | 22 => 28 | 3 => 3 | 4 => 4 | n => n, fun | n => n⟩
theorem Tryz.laysNm215 : Go.Proofs.Lays2.n15 Tryz.prog Tryz.laysNm215_ren := {
  mixed := by kernel_rfl
  f15 := Tryz.func121.trans (congrArg some (by kernel_rfl))
  t3 := Tryz.underlying3
  a3 := Tryz.isAgg3
  z3 := Tryz.sizeOf3
  v3 := Tryz.zeroValue3
  t4 := Tryz.underlying4
  a4 := Tryz.isAgg4
  z4 := Tryz.sizeOf4
  v4 := Tryz.zeroValue4
  t22 := Tryz.underlying28
  a22 := Tryz.isAgg28
  z22 := Tryz.sizeOf28
  v22 := Tryz.zeroValue28
  i3 := by kernel_rfl }
open Go.RowKit Go.Lib in
theorem Tryz.slices_Clone_int (b off n c : Nat) (zs : List Int) (w : World) (hz : n ≤ zs.length) (hbig : n * 8 ≤ 140737488355328) (hc : ∀ j, j < zs.length → w.cell? ⟨b, off + j, none⟩ = some (.int .i64 (zs.getD j 0))) :
    Calls Tryz.prog 121 #[.slice (some ⟨b, off, none⟩) n c] w fun e w' => ∃ v', e = .returned v' ∧ w'.ownsRow w.heap.size 3 1 v' n ((zs.take n).map (Value.int .i64)) ∧ v' ≠ .slice none 0 0 ∧ Below w.heap.size w w' := Any.slices_Clone_int Tryz.laysNm215 b off n c zs w hz hbig hc
open Go.RowKit Go.Lib in
theorem Tryz.slices_Clone_int_nil (n c : Nat) (w : World) :
    Calls Tryz.prog 121 #[.slice none n c] w fun e w' => e = .returned (.slice none 0 0) ∧ w' = w := Any.slices_Clone_int_nil Tryz.laysNm215 n c w
open Go.RowKit Go.Lib in
theorem Tryz.slices_Clone_int_zero (a : Addr) (c : Nat) (w : World) :
    Calls Tryz.prog 121 #[.slice (some a) 0 c] w fun e w' => ∃ v', e = .returned v' ∧ w'.ownsRow w.heap.size 3 1 v' 0 [] ∧ v' ≠ .slice none 0 0 ∧ Below w.heap.size w w' := Any.slices_Clone_int_zero Tryz.laysNm215 a c w
end Go.Proofs
namespace Go.Proofs.YtmljebgideecjaaGreatZ
open Go.RowKit Go.Proofs.YtmljebgideecjaaGreatW.PrintWords Go.Proofs.YtmljebgideecjaaGreatW.PrintLast
theorem C_plain {α : Type} {enc : α → Value} {h1 : ∀ x, (enc x).oneCell' = true} {w : World} {A : Option Addr} {xs : List α} (h : (Kd.scalar enc h1).C w A xs.length xs) (hp : 0 < xs.length) :
    ∃ b o, A = some ⟨b, o, none⟩ ∧ b < w.heap.size ∧ ∀ (j : Nat) x, xs[j]? = some x → w.cell? ⟨b, o + j, none⟩ = some (enc x) := by
  obtain ⟨ad, rfl, hc⟩ := h.2.2 hp
  have hcell : ∀ (j : Nat) x, xs[j]? = some x → w.cell? (ad.add j) = some (enc x) := by
    intro j x hj
    obtain ⟨c, _, hK, hu⟩ := hc j x hj
    have hK' : c = [enc x] := hK
    subst hK'
    have := hu 0 (enc x) rfl
    have h1 : (Kd.scalar enc h1).sz = 1 := rfl
    rw [h1, Nat.mul_one, Nat.add_zero] at this
    exact this
  have h0 : w.cell? ad = some (enc xs[0]) := by
    have := hcell 0 xs[0] (List.getElem?_eq_getElem hp)
    simpa [Addr.add] using this
  have hs : ad.spot = none := by
    rcases hsp : ad.spot with _ | s
    · rfl
    · exfalso
      unfold World.cell? at h0
      rw [hsp] at h0
      split at h0 <;> simp at h0
  obtain ⟨b, o, s⟩ := ad
  dsimp only at hs
  subst hs
  refine ⟨b, o, rfl, World.block_lt_of_cell? w _ h0, fun j x hj => ?_⟩
  have := hcell j x hj
  rw [← this]
  congr 1
  unfold Addr.add
  by_cases hj0 : j = 0
  · subst hj0; rfl
  · simp [hj0]
end Go.Proofs.YtmljebgideecjaaGreatZ
namespace Go.Proofs.YtmljebgideecjaaGreat.P
open Go.Proofs.YtmljebgideecjaaGreatZ Go.RowKit Go.Proofs.YtmljebgideecjaaGreatW.PrintWords Go.Proofs.YtmljebgideecjaaGreatW.PrintLast Go.Proofs.YtmljebgideecjaaGreatW.PrintMore
attribute [local go_sem] max2_int min2_int max_two min_two max_three min_three max_four min_four   -- for this text's walks alone
set_option linter.unusedVariables false
set_option linter.unusedSimpArgs false
def strings_Join.f (l0 : List ByteArray) (a1 : ByteArray) : Option (ByteArray) := if (Lib.join (l0.map (·.data.toList)) a1.data.toList).length ≤ 140737488355328 ∧ l0.length ≤ 140737488355328 then some ⟨(Lib.join (l0.map (·.data.toList)) a1.data.toList).toArray⟩ else none
theorem strings_Join.calls (A0 : Option Addr) (c0 : Nat) (l0 : List ByteArray) (a1 : ByteArray) (r : ByteArray) (w : World) (hr0 : Kd.C Kd.string w A0 l0.length l0) (hc0 : l0.length ≤ c0) (h : strings_Join.f l0 a1 = some r) :
    Calls Tryz.prog 194 #[.slice A0 l0.length c0, .string a1] w fun e w' => e = .returned (.string r) ∧ Below w.heap.size w w' := by
  unfold strings_Join.f at h
  split at h
  · rename_i hlen
    obtain rfl := Option.some.inj h
    cases l0 with
    | nil => exact (Go.Proofs.Tryz.strings_Join_none A0 c0 a1 w).mono fun e w' ⟨he, hw⟩ => ⟨he, hw ▸ Below.refl _ _⟩
    | cons x xs =>
      obtain ⟨b, o, rfl, hb, hcell⟩ := Go.Proofs.YtmljebgideecjaaGreatZ.C_plain hr0 (by simp)
      exact (Go.Proofs.Tryz.strings_Join b o c0 (x :: xs) a1 w hcell hb hlen.2 hc0 hlen.1).mono fun e w' ⟨he, hb⟩ => ⟨he, hb⟩
  · simp at h
end Go.Proofs.YtmljebgideecjaaGreat.P
namespace Go.Proofs.YtmljebgideecjaaGreat.P
open Go.Proofs.YtmljebgideecjaaGreatZ Go.RowKit Go.Proofs.YtmljebgideecjaaGreatW.PrintWords Go.Proofs.YtmljebgideecjaaGreatW.PrintLast Go.Proofs.YtmljebgideecjaaGreatW.PrintMore
attribute [local go_sem] max2_int min2_int max_two min_two max_three min_three max_four min_four   -- for this text's walks alone
set_option linter.unusedVariables false
set_option linter.unusedSimpArgs false
def impl_NumsText.l0 : Nat → List ByteArray → List Int → Int → Int → Option (ByteArray)
  | 0, _, _, _, _ => none
  | k + 1, x3, x7, x8, x9 => if x9 < x8 then (if 0 ≤ x9 then (if x9 < (x7.length : Int) then ((impl_Digits.f k (rd x7 x9)).bind fun t105 => (if x3.length < 8796093022208 then (impl_NumsText.l0 k (x3 ++ [t105]) x7 x8 (wrap64 (x9 + 1))) else (none))) else (none)) else (none)) else ((strings_Join.f x3 (⟨#[44]⟩ : ByteArray)).bind fun t109 => (some t109))
def impl_NumsText.f (k : Nat) (l0 : List Int) : Option (ByteArray) := impl_NumsText.l0 k (([] : List ByteArray)) l0 (l0.length : Int) 0
set_option maxHeartbeats 8000000 in
set_option maxRecDepth 100000 in
theorem impl_NumsText.calls (k : Nat) (A0 : Option Addr) (c0 : Nat) (l0 : List Int) (r : ByteArray) (w : World) (hr0 : Kd.C (Kd.int .i64) w A0 l0.length l0) (hc0 : l0.length ≤ c0) (h : impl_NumsText.f k l0 = some r) :
    Calls Tryz.prog 119 #[.slice A0 l0.length c0] w fun e w' => e = .returned (.string r) ∧ Below w.heap.size w w' := by
  have HR0 := Aside0.mk hr0
  have HC0 := Aside0.mk hc0
  clear hr0 hc0
  have HB := Aside0.mk (Below.refl w.heap.size w)
  have H := h
  unfold impl_NumsText.f at H
  clear h
  obtain ⟨y101, hy101⟩ : ∃ y_ : List ByteArray, y_ = (([] : List ByteArray)) := ⟨_, rfl⟩
  replace H : (impl_NumsText.l0 k y101 l0 (l0.length : Int) 0) = some r := yH H hy101
  have Ny101 := Aside0.mk hy101
  clear hy101
  have H' := Aside0.mk H
  clear H
  go_enter Tryz.func119, Tryz.ntmps119
  go_wp2_with (first | ((with_reducible refine gate_dst (N := 6) rfl ?_); refine Kd.R_lit Kd.string _ 9 ?hg (N := 6) ?hd (xs := ([] : List ByteArray)) (inner := []) (ok := fun _ => True) (okp := fun _ => True) ?hr ?hp (fun _ hk => hk) trivial (Below.refl _ _) (Nat.le_refl _) (by simp) ?_; (case hd => rfl); (case hg => rfl); (case hr => first | (go_simp; done) | (go_simp; rfl)); (case hp => exact (Reps.none _ _)); intro vz1 wz1 hoz1 hb hg_ hnew_; clear hg_ hnew_; (first | rw [← Ny101.out] at hoz1 | (simp only [Int.reduceToNat] at hoz1; rw [← Ny101.out] at hoz1)); have HOz1 := Aside0.mk (Kd.R_lower hoz1 (below_size (hX HB.out))); replace HB := Aside0.mk (below_step (hX HB.out) hb); clear hb hoz1))
  go_loopg [3, 9] k (fun kq v3 v9 w' => ∃ (x3_1 : List ByteArray) (x9_1 : Int), v9 = .int .i64 x9_1 ∧ Aside0 (impl_NumsText.l0 kq x3_1 l0 (l0.length : Int) x9_1 = some r) ∧ Aside0 (kq ≤ k) ∧ Aside0 (Kd.R Kd.string 9 w' w.heap.size (fun _ => True) v3 x3_1) ∧ Aside0 (Below w.heap.size w w'))
  case atStart => exact ⟨(y101), (0), rS, H', ⟨Nat.le_refl _⟩, ⟨(rX HOz1.out)⟩, ⟨(hX HB.out)⟩⟩
  case round =>
    clear H'
    try clear c1
    try clear p2
    obtain ⟨x3_1, x9_1, rfl, HA, HKy1, HO_y1, HB⟩ := hrel
    cases gk with
    | zero => exact absurd HA.out (by simp [impl_NumsText.l0])
    | succ k1 =>
      have H := HA.out
      clear HA
      simp only [impl_NumsText.l0] at H
      by_cases c4 : x9_1 < (l0.length : Int)
      · rw [if_pos c4] at H
        have c4b0 := decide_eq_true c4
        clear c4
        replace H := ifP H; obtain ⟨c5, H⟩ := H
        have c5b0 := decide_eq_true c5
        clear c5
        replace H := ifP H; obtain ⟨c6, H⟩ := H
        have c6b0 := decide_eq_true c6
        clear c6
        replace H := bE H; obtain ⟨t105, A7, H⟩ := H
        replace H := ifP H; obtain ⟨c8, H⟩ := H
        have LMc8 := Aside0.mk c8
        clear c8
        obtain ⟨y106, hy106⟩ : ∃ y_ : List ByteArray, y_ = (x3_1 ++ [t105]) := ⟨_, rfl⟩
        replace H : (impl_NumsText.l0 k1 y106 l0 (l0.length : Int) (wrap64 (x9_1 + 1))) = some r := yH H hy106
        have Ny106 := Aside0.mk hy106
        clear hy106
        have H' := Aside0.mk H
        clear H
        have px1 : 0 ≤ (x9_1 : Int) := of_decide_eq_true (by first | (with_reducible assumption) | assumption)
        have qx1 : x9_1 < (l0.length : Int) := of_decide_eq_true (by first | (with_reducible assumption) | assumption)
        obtain ⟨adx1, ex1, hxx1⟩ := Kd.at_int HR0.out x9_1 px1 qx1
        cases ex1
        replace hxx1 := (HB.out.cell (World.block_lt_of_cell? w _ hxx1)).trans hxx1
        replace px1 := eq_true px1
        replace qx1 := eq_true qx1
        go_wp2_with (first | (refine goesM 120 15 Tryz.func120 #[.int .i64 (rd l0 x9_1)] ?_; refine (impl_Digits.calls k1 (rd l0 x9_1) t105 _ A7.out).mono ?_; rintro e w' ⟨rfl, ⟨nd, rfl⟩⟩; refine ⟨_, rfl, ?_⟩) | ((with_reducible refine gate_builtin (b := .append) (xs := #[.tmp 13, .tmp 16]) rfl ?_); at_builtin; refine Kd.R_append Kd.string (w0 := w) w.heap.size rfl (.tmp 13) (.tmp 16) 194 9 (.string ⟨#[]⟩) 16 rfl Tryz.underlying194 info9 rfl (by decide) (by omega) u3 x3_1 t105 [.string t105] (fun _ => True) (fun _ => False) rfl rfl ?aP (fun _ hk => hk.elim) ?aF ?aO ?aB ?aS ?aL ?_; (case aP => exact rfl); (case aB => exact (hX HB.out)); (case aF => exact (fun _ _ => trivial)); (case aO => exact (rX HO_y1.out)); (case aS => exact (below_size (hX HB.out))); (case aL => have := LMc8.out; omega); intro vx1 wx1 ho hb hg hat; rw [← Ny106.out] at ho; have HOx1 := Aside0.mk (ho); replace HB := Aside0.mk (hb); clear HO_y1; clear ho hb hg hat))
        go_roundg k1
        case measure => have := HKy1.out; omega
        case rel => exact ⟨(y106), (wrap64 (x9_1 + 1)), rS, H', ⟨by have := HKy1.out; omega⟩, ⟨(rX HOx1.out)⟩, ⟨(hX HB.out)⟩⟩
      · rw [if_neg c4] at H
        have c4b0 := decide_eq_false c4
        clear c4
        replace H := bE H; obtain ⟨t109, A10, H⟩ := H
        obtain rfl := Option.some.inj H
        obtain ⟨Aox1, cox1, eox1⟩ := Kd.R_slice HO_y1.out
        subst eox1
        go_wp2_with (first | (refine goesM 194 20 Tryz.func194 #[.slice Aox1 x3_1.length cox1, .string (⟨#[44]⟩ : ByteArray)] ?_; refine (strings_Join.calls _ _ x3_1 (⟨#[44]⟩ : ByteArray) t109 _ (cX (Kd.R_reads' HO_y1.out).2.2) ((Kd.R_reads' HO_y1.out).2.1) A10.out).mono ?_; rintro e wx1 ⟨rfl, hb⟩; refine ⟨_, rfl, ?_⟩; replace HO_y1 := Aside0.mk (Kd.R_below (rX HO_y1.out) hb); replace HB := Aside0.mk (below_step (hX HB.out) hb); clear hb))
        go_ret
        exact ⟨rE, (hX HB.out)⟩
end Go.Proofs.YtmljebgideecjaaGreat.P
namespace Go.Proofs.YtmljebgideecjaaGreat.P
open Go.Proofs.YtmljebgideecjaaGreatZ Go.RowKit Go.Proofs.YtmljebgideecjaaGreatW.PrintWords Go.Proofs.YtmljebgideecjaaGreatW.PrintLast Go.Proofs.YtmljebgideecjaaGreatW.PrintMore
attribute [local go_sem] max2_int min2_int max_two min_two max_three min_three max_four min_four   -- for this text's walks alone
set_option linter.unusedVariables false
set_option linter.unusedSimpArgs false
def impl_RowsText.f (k : Nat) (l0_0 : List Int) (a0_1 : Int) : Option (ByteArray) := (impl_NumsText.f k l0_0).bind fun t102 => (if t102.size + 1 ≤ 9223372036854775807 then ((impl_Digits.f k a0_1).bind fun t103 => (if (t102 ++ (⟨#[47]⟩ : ByteArray)).size + t103.size ≤ 9223372036854775807 then (some ((t102 ++ (⟨#[47]⟩ : ByteArray)) ++ t103)) else (none))) else (none))
def impl_RowsText.T1 : Bool × List (List Nat × List Nat) := (true, [([], []), ([0], [0]), ([1], [1]), ([2], [2]), ([], []), ([4], [4]), ([5, 2], [5]), ([3, 6], [3, 6]), ([7, 6, 0, 1, 2, 3, 4, 5, 6, 7], [7])])
def impl_RowsText.B1 : List Nat := [0, 1, 3, 7, 0, 16, 55, 127, 255]
theorem impl_RowsText.tab1 : rtab .any (opsOf Tryz.f58 1) = impl_RowsText.T1 := by kernel_rfl
theorem impl_RowsText.bits1 : waitsOk impl_RowsText.T1.2 impl_RowsText.B1 = true := by kernel_rfl
set_option maxHeartbeats 8000000 in
set_option maxRecDepth 100000 in
theorem impl_RowsText.calls (k : Nat) (A0_0 : Option Addr) (c0_0 : Nat) (l0_0 : List Int) (a0_1 : Int) (r : ByteArray) (w : World) (hr0_0 : Kd.C (Kd.int .i64) w A0_0 l0_0.length l0_0) (hc0_0 : l0_0.length ≤ c0_0) (h : impl_RowsText.f k l0_0 a0_1 = some r) :
    Calls Tryz.prog 58 #[.agg #[.slice A0_0 l0_0.length c0_0, .int .i64 a0_1]] w fun e w' => e = .returned (.string r) ∧ Below w.heap.size w w' := by
  have hu41 := Tryz.underlying41
  have HR0_0 := Aside0.mk hr0_0
  have HC0_0 := Aside0.mk hc0_0
  clear hr0_0 hc0_0
  have HB := Aside0.mk (Below.refl w.heap.size w)
  have H := h
  unfold impl_RowsText.f at H
  clear h
  replace H := bE H; obtain ⟨t102, A2, H⟩ := H
  replace H := ifP H; obtain ⟨c3, H⟩ := H
  have c3b0 := eq_true c3
  have c3b1 := decide_eq_true c3
  try have c3b2 : (9223372036854775807 < t102.size + 1) = False := eq_false (Nat.not_lt.2 c3)
  replace H := bE H; obtain ⟨t103, A4, H⟩ := H
  replace H := ifP H; obtain ⟨c5, H⟩ := H
  have c5b0 := eq_true c5
  have c5b1 := decide_eq_true c5
  try have c5b2 : (9223372036854775807 < (t102 ++ (⟨#[47]⟩ : ByteArray)).size + t103.size) = False := eq_false (Nat.not_lt.2 c5)
  (try (have c5b3 : t102.size + 1 + t103.size ≤ 9223372036854775807 := (by have h_ := c5; simp only [ByteArray.size_append, strOfNums_size] at h_; exact h_); have c5b4 := eq_true c5b3; (try have c5b5 := decide_eq_true c5b3); (try have c5b6 := eq_false (Nat.not_lt.2 c5b3))))
  obtain rfl := Option.some.inj H
  go_enter Tryz.func58, Tryz.ntmps58
  try go_wp2_with (first | (refine boxE 1 #[.slice A0_0 l0_0.length c0_0, .int .i64 a0_1] 41 ?_; intro gbz1 hg wz1 hbox hb; have BKz1 := Aside0.mk (hbox); have GWz1 := Aside0.mk (gX' hg (hX HB.out)); have GEz1 := Aside0.mk (gX' hg (hX HB.out)); replace HB := Aside0.mk (below_step (hX HB.out) hb); clear hb hbox hg))
  replace BKz1 := Aside0.mk (blk_drew BKz1.out)
  replace HB := Aside0.mk (below_drew1 HB.out)
  refine start_ (n := 9) (S := fun w' => w'.cell? ⟨gbz1, 0, none⟩ = some (.slice A0_0 l0_0.length c0_0) ∧ w'.cell? ⟨gbz1, 1, none⟩ = some (.int .i64 a0_1)) (ds := []) (bm 9 0) (by kernel_rfl) rfl (by kernel_rfl) ⟨cK BKz1.out 0, cK BKz1.out 1⟩ (fun hHeld => ?_); refine with_tabW impl_RowsText.tab1 impl_RowsText.bits1 (fun HT_ HW_ => ?_)
  generalize wz1.drew = wz2 at BKz1 HB hHeld ⊢
  refine pZ 0 3 (bm 9 1) HT_.out ?_
  refine pZ 4 7 (bm 9 17) HT_.out ?_
  refine tZ 1 4 (bm 9 19) HT_.out HW_.out hHeld ?_
  refine tZ 5 8 (bm 9 51) HT_.out HW_.out hHeld ?_
  refine oZ 2 (some 5) (bm 9 55) HT_.out (fun K hK => ?_)
  refine goesN Tryz.func119 #[.slice A0_0 l0_0.length c0_0] ?_
  with_reducible refine (impl_NumsText.calls k _ _ l0_0 t102 _ ?side1 ?side2 A2.out).mono ?_
  (case side1 => repeat (first | exact (Kd.C_below HR0_0.out HB.out) | (with_reducible refine Kd.C_alloc ?_ _) | (with_reducible refine Kd.C_drewN ?_ _) | (with_reducible refine Kd.C_drew ?_)))
  (case side2 => exact HC0_0.out)
  rintro e wz3 ⟨rfl, hb⟩
  refine ⟨_, rfl, ?_⟩
  replace BKz1 := Aside0.mk (blk_below (bX BKz1.out) hb)
  replace HB := Aside0.mk (below_step (hX HB.out) hb)
  (try clear hb)
  (try clear hb2)
  (try clear hk)
  (try clear hi)
  refine hK.out _ _ ⟨cK BKz1.out 0, cK BKz1.out 1⟩ (fun hHeld => ?_)
  clear hK K
  refine nZ 5 ?_
  refine pZ 3 6 (bm 9 63) HT_.out ?_
  refine oZ 6 (some 9) (bm 9 127) HT_.out (fun K hK => ?_)
  refine goesN Tryz.func120 #[.int .i64 a0_1] ?_
  with_reducible refine (impl_Digits.calls k a0_1 t103 _ A4.out).mono ?_
  rintro e w' ⟨rfl, ⟨nd, rfl⟩⟩
  refine ⟨_, rfl, ?_⟩
  refine hK.out _ _ ⟨cK BKz1.out 0, cK BKz1.out 1⟩ (fun hHeld => ?_)
  clear hK K
  refine nZ 9 ?_
  refine pZ 7 10 (bm 9 255) HT_.out ?_
  refine pZ 8 2 (bm 9 511) HT_.out ?_
  refine done_ (done_of HT_.out (by kernel_rfl)) ?_
  try go_wp2
  go_ret
  exact ⟨rE, (hX HB.out)⟩
end Go.Proofs.YtmljebgideecjaaGreat.P
namespace Go.Proofs.YtmljebgideecjaaGreat.P
open Go.Proofs.YtmljebgideecjaaGreatZ Go.RowKit Go.Proofs.YtmljebgideecjaaGreatW.PrintWords Go.Proofs.YtmljebgideecjaaGreatW.PrintLast Go.Proofs.YtmljebgideecjaaGreatW.PrintMore
attribute [local go_sem] max2_int min2_int max_two min_two max_three min_three max_four min_four   -- for this text's walks alone
set_option linter.unusedVariables false
set_option linter.unusedSimpArgs false
def slices_Clone_int_int.f (l0 : List Int) : Option (List Int) := if l0.length ≤ 17592186044416 then some l0 else none
theorem slices_Clone_int_int.calls (A0 : Option Addr) (c0 : Nat) (l0 : List Int) (r : List Int) (w : World) (hr0 : Kd.C (Kd.int .i64) w A0 l0.length l0) (hc0 : l0.length ≤ c0) (h : slices_Clone_int_int.f l0 = some r) :
    Calls Tryz.prog 121 #[.slice A0 l0.length c0] w fun e w' => ∃ v0_ : Value, e = .returned (v0_) ∧ Kd.R (Kd.int .i64) 3 w' w.heap.size (fun _ => True) v0_ r ∧ Below w.heap.size w w' := by
  unfold slices_Clone_int_int.f at h
  split at h
  · rename_i hlen
    obtain rfl := Option.some.inj h
    cases l0 with
    | nil =>
      cases A0 with
      | none => exact (Go.Proofs.Tryz.slices_Clone_int_nil 0 c0 w).mono fun e w' ⟨he, hw⟩ => ⟨_, he, Kd.R_nil _ _ _ _ _, hw ▸ Below.refl _ _⟩
      | some a => exact (Go.Proofs.Tryz.slices_Clone_int_zero a c0 w).mono fun e w' ⟨v, he, ho, _, hb⟩ => ⟨v, he, Kd.R_of_own ho (fun _ _ => trivial), hb⟩
    | cons x xs =>
      obtain ⟨b, o, rfl, hb, hcell⟩ := Go.Proofs.YtmljebgideecjaaGreatZ.C_plain hr0 (by simp)
      refine (Go.Proofs.Tryz.slices_Clone_int b o (x :: xs).length c0 (x :: xs) w (Nat.le_refl _) (by omega) (fun j hj => ?_)).mono fun e w' ⟨v, he, ho, _, hb⟩ => ⟨v, he, Kd.R_of_own (by rw [List.take_length] at ho; exact ho) (fun _ _ => trivial), hb⟩
      have := hcell j ((x :: xs)[j]'hj) (List.getElem?_eq_getElem hj)
      rw [this, List.getD_eq_getElem?_getD, List.getElem?_eq_getElem hj]
      rfl
  · simp at h
end Go.Proofs.YtmljebgideecjaaGreat.P
namespace Go.Proofs.YtmljebgideecjaaGreat.P
open Go.Proofs.YtmljebgideecjaaGreatZ Go.RowKit Go.Proofs.YtmljebgideecjaaGreatW.PrintWords Go.Proofs.YtmljebgideecjaaGreatW.PrintLast Go.Proofs.YtmljebgideecjaaGreatW.PrintMore
attribute [local go_sem] max2_int min2_int max_two min_two max_three min_three max_four min_four   -- for this text's walks alone
set_option linter.unusedVariables false
set_option linter.unusedSimpArgs false
def impl_StateAt.f  : Option (Int) := some 13
set_option maxHeartbeats 8000000 in
set_option maxRecDepth 100000 in
theorem impl_StateAt.calls  (r : Int) (w : World) (h : impl_StateAt.f  = some r) :
    Calls Tryz.prog 122 #[] w fun e w' => e = .returned (.int .i64 r) ∧ Drawn0 w w' := by
  have H := h
  unfold impl_StateAt.f at H
  clear h
  obtain rfl := Option.some.inj H
  go_enter Tryz.func122, Tryz.ntmps122
  go_wp2
  go_ret
  exact ⟨by first | rfl | (simp; done) | (simp [*]; done), dX⟩
end Go.Proofs.YtmljebgideecjaaGreat.P

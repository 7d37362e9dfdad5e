/- A part of the proof of the law FnExactMachineText: texts of this seat, merged (words, printed functions of the program, plain lemmas). Conditions: none of its own. -/
import Derived.Test.YtmljebgideecjaaGreatPkFnExactMachineText1
namespace Go.Proofs.YtmljebgideecjaaGreat.P
open Go.Proofs.YtmljebgideecjaaGreatZ Go.RowKit Go.Proofs.YtmljebgideecjaaGreatW.PrintWords Go.Proofs.YtmljebgideecjaaGreatW.PrintLast Go.Proofs.YtmljebgideecjaaGreatW.PrintMore
attribute [local go_sem] max2_int min2_int max_two min_two max_three min_three max_four min_four   -- for this text's walks alone
set_option linter.unusedVariables false
set_option linter.unusedSimpArgs false
def laws_toRows.f (k : Nat) (l0_0 : List Int) (a0_1 : Int) : Option (List Int × Int) := (laws_toIntS.f k l0_0).bind fun t104 => (some (t104, a0_1))
set_option maxHeartbeats 8000000 in
set_option maxRecDepth 100000 in
theorem laws_toRows.calls (k : Nat) (A0_0 : Option Addr) (c0_0 : Nat) (l0_0 : List Int) (a0_1 : Int) (r1 : List Int) (r2 : Int) (w : World) (hr0_0 : Kd.C (Kd.int .i64) w A0_0 l0_0.length l0_0) (hc0_0 : l0_0.length ≤ c0_0) (h : laws_toRows.f k l0_0 a0_1 = some (r1, r2)) :
    Calls Tryz.prog 20 #[.agg #[.slice A0_0 l0_0.length c0_0, .int .i64 a0_1]] w fun e w' => ∃ v0_ : Value, e = .returned (.agg #[v0_, .int .i64 r2]) ∧ Kd.R (Kd.int .i64) 3 w' w.heap.size (fun _ => True) v0_ r1 ∧ Below w.heap.size w w' := by
  have hu30 := Tryz.underlying30
  have hu41 := Tryz.underlying41
  have HR0_0 := Aside0.mk hr0_0
  have HC0_0 := Aside0.mk hc0_0
  clear hr0_0 hc0_0
  have HB := Aside0.mk (Below.refl w.heap.size w)
  have H := h
  unfold laws_toRows.f at H
  clear h
  replace H := bE H; obtain ⟨t104, A2, H⟩ := H
  simp only [Option.some.injEq, Prod.mk.injEq] at H
  obtain ⟨rfl, rfl⟩ := H
  go_enter Tryz.func20, Tryz.ntmps20
  go_wp2_with (first | (refine boxE 1 #[.slice A0_0 l0_0.length c0_0, .int .i64 a0_1] 30 ?_; intro gbz1 hg wz1 hbox hb; have BKz1 := Aside0.mk (hbox); have GWz1 := Aside0.mk (gX' hg (hX HB.out)); have GEz1 := Aside0.mk (gX' hg (hX HB.out)); replace HB := Aside0.mk (below_step (hX HB.out) hb); clear hb hbox hg) | (refine boxE 2 #[.slice none 0 0, .int .i64 0] 41 ?_; intro gbz2 hg wz2 hbox hb; have BKz2 := Aside0.mk (hbox); have GWz2 := Aside0.mk (gX' hg (hX HB.out)); have GEz2 := Aside0.mk (gX' hg (hX HB.out)); have NBz1 := Aside0.mk (gL hg (bX BKz1.out)); have NBz2 := Aside0.mk (gG hg (bX BKz1.out)); replace BKz1 := Aside0.mk (blk_below (bX BKz1.out) hb); replace HB := Aside0.mk (below_step (hX HB.out) hb); clear hb hbox hg) | (refine boxE 3 #[.slice none 0 0, .int .i64 0] 41 ?_; intro gbz3 hg wz3 hbox hb; have BKz3 := Aside0.mk (hbox); have GWz3 := Aside0.mk (gX' hg (hX HB.out)); have GEz3 := Aside0.mk (gX' hg (hX HB.out)); have NBz3 := Aside0.mk (gL hg (bX BKz1.out)); have NBz4 := Aside0.mk (gG hg (bX BKz1.out)); have NBz5 := Aside0.mk (gL hg (bX BKz2.out)); have NBz6 := Aside0.mk (gG hg (bX BKz2.out)); replace BKz1 := Aside0.mk (blk_below (bX BKz1.out) hb); replace BKz2 := Aside0.mk (blk_below (bX BKz2.out) hb); replace HB := Aside0.mk (below_step (hX HB.out) hb); clear hb hbox hg; have hnbz1 := NBz1.out; have hncz1 := NBz2.out; have hnbz2 := NBz3.out; have hncz2 := NBz4.out; obtain ⟨hczz1, hczz2, hfzz1, hfzz2⟩ := cZ2 BKz1.out) | (refine goesM 47 6 Tryz.func47 #[.slice A0_0 l0_0.length c0_0] ?_; refine (laws_toIntS.calls k _ _ l0_0 t104 _ (cC HR0_0.out HB.out) HC0_0.out A2.out).mono ?_; rintro e wz4 ⟨vz1, rfl, hoz1, hb⟩; refine ⟨_, rfl, ?_⟩; have HOz1 := Aside0.mk (Kd.R_lower hoz1 (below_size (hX HB.out))); replace BKz1 := Aside0.mk (blk_below (bX BKz1.out) hb); replace BKz2 := Aside0.mk (blk_below (bX BKz2.out) hb); replace BKz3 := Aside0.mk (blk_below (bX BKz3.out) hb); replace HB := Aside0.mk (below_step (hX HB.out) hb); clear hb hoz1; obtain ⟨Aoz1, coz1, eoz1⟩ := Kd.R_slice HOz1.out; subst eoz1; have hnbz3 := NBz6.out; have hncz3 := NBz5.out; obtain ⟨hczz3, hczz4, hfzz3, hfzz4⟩ := cZ2 BKz3.out; obtain ⟨hczz5, hczz6, hfzz5, hfzz6⟩ := cZ2 BKz1.out; obtain ⟨hczz7, hczz8, hfzz7, hfzz8⟩ := cZ2 BKz2.out))
  refine bodyPost_ret (results_cell_row rfl _ _ gbz2 41 #[.slice Aoz1 t104.length coz1, .int .i64 a0_1] (0, 0) _ rfl (bP BKz2.out) Tryz.underlying41 rfl (by kernel_rfl)) rfl ?_
  exact ⟨_, rE, (rT (h := by exact Kd.R_mono (Kd.R_far (p := ⟨gbz2, 1, none⟩) (Kd.R_far (p := ⟨gbz2, 0, none⟩) (Kd.R_far (p := ⟨gbz3, 1, none⟩) (Kd.R_far (p := ⟨gbz3, 0, none⟩) (Kd.R_types (Kd.R_types HOz1.out BKz3.out (by decide)) BKz2.out (by decide)) (fun _ hk => hk.1.2) (.slice Aoz1 t104.length coz1)) (fun _ hk => hk.1.2) (.int .i64 a0_1)) (fun _ hk => hk.2) (.slice Aoz1 t104.length coz1)) (fun _ hk => hk.2) (.int .i64 a0_1)) (fun _ hk => trivial))), (hX HB.out)⟩
end Go.Proofs.YtmljebgideecjaaGreat.P
namespace Go.Proofs.YtmljebgideecjaaGreat.P
open Go.Proofs.YtmljebgideecjaaGreatZ Go.RowKit Go.Proofs.YtmljebgideecjaaGreatW.PrintWords Go.Proofs.YtmljebgideecjaaGreatW.PrintLast Go.Proofs.YtmljebgideecjaaGreatW.PrintMore
attribute [local go_sem] max2_int min2_int max_two min_two max_three min_three max_four min_four   -- for this text's walks alone
set_option linter.unusedVariables false
set_option linter.unusedSimpArgs false
def laws_toWord.f (a0_0 : Int) (a0_1 : Int) (a0_2 : Int) : Option (Int × Int × Int) := some (a0_0, a0_1, a0_2)
set_option maxHeartbeats 8000000 in
set_option maxRecDepth 100000 in
theorem laws_toWord.calls (a0_0 : Int) (a0_1 : Int) (a0_2 : Int) (r1 : Int) (r2 : Int) (r3 : Int) (w : World) (h : laws_toWord.f a0_0 a0_1 a0_2 = some (r1, r2, r3)) :
    Calls Tryz.prog 164 #[.agg #[.int .i64 a0_0, .int .i64 a0_1, .int .i64 a0_2]] w fun e w' => e = .returned (.agg #[.int .i64 r1, .int .i64 r2, .int .i64 r3]) ∧ Below w.heap.size w w' := by
  have hu176 := Tryz.underlying176
  have hu140 := Tryz.underlying140
  have HB := Aside0.mk (Below.refl w.heap.size w)
  have H := h
  unfold laws_toWord.f at H
  clear h
  simp only [Option.some.injEq, Prod.mk.injEq] at H
  obtain ⟨rfl, rfl, rfl⟩ := H
  go_enter Tryz.func164, Tryz.ntmps164
  go_wp2_with (first | (refine boxE 1 #[.int .i64 a0_0, .int .i64 a0_1, .int .i64 a0_2] 176 ?_; intro gbz1 hg wz1 hbox hb; have BKz1 := Aside0.mk (hbox); have GWz1 := Aside0.mk (gX' hg (hX HB.out)); have GEz1 := Aside0.mk (gX' hg (hX HB.out)); replace HB := Aside0.mk (below_step (hX HB.out) hb); clear hb hbox hg) | (refine boxE 2 #[.int .i64 0, .int .i64 0, .int .i64 0] 140 ?_; intro gbz2 hg wz2 hbox hb; have BKz2 := Aside0.mk (hbox); have GWz2 := Aside0.mk (gX' hg (hX HB.out)); have GEz2 := Aside0.mk (gX' hg (hX HB.out)); have NBz1 := Aside0.mk (gL hg (bX BKz1.out)); have NBz2 := Aside0.mk (gG hg (bX BKz1.out)); replace BKz1 := Aside0.mk (blk_below (bX BKz1.out) hb); replace HB := Aside0.mk (below_step (hX HB.out) hb); clear hb hbox hg) | (refine boxE 3 #[.int .i64 0, .int .i64 0, .int .i64 0] 140 ?_; intro gbz3 hg wz3 hbox hb; have BKz3 := Aside0.mk (hbox); have GWz3 := Aside0.mk (gX' hg (hX HB.out)); have GEz3 := Aside0.mk (gX' hg (hX HB.out)); have NBz3 := Aside0.mk (gL hg (bX BKz1.out)); have NBz4 := Aside0.mk (gG hg (bX BKz1.out)); have NBz5 := Aside0.mk (gL hg (bX BKz2.out)); have NBz6 := Aside0.mk (gG hg (bX BKz2.out)); replace BKz1 := Aside0.mk (blk_below (bX BKz1.out) hb); replace BKz2 := Aside0.mk (blk_below (bX BKz2.out) hb); replace HB := Aside0.mk (below_step (hX HB.out) hb); clear hb hbox hg; have hnbz1 := NBz1.out; have hncz1 := NBz2.out; have hnbz2 := NBz3.out; have hncz2 := NBz4.out; obtain ⟨hczz1, hczz2, hczz3, hfzz1, hfzz2, hfzz3⟩ := cZ3 BKz1.out; have hnbz3 := NBz6.out; have hncz3 := NBz5.out; obtain ⟨hczz4, hczz5, hczz6, hfzz4, hfzz5, hfzz6⟩ := cZ3 BKz3.out; obtain ⟨hczz7, hczz8, hczz9, hfzz7, hfzz8, hfzz9⟩ := cZ3 BKz2.out))
  refine bodyPost_ret (results_cell_row rfl _ _ gbz2 140 #[.int .i64 a0_0, .int .i64 a0_1, .int .i64 a0_2] (0, 0) _ rfl (bP BKz2.out) Tryz.underlying140 rfl (by kernel_rfl)) rfl ?_
  exact ⟨rE, (hX HB.out)⟩
end Go.Proofs.YtmljebgideecjaaGreat.P
namespace Go.Proofs.YtmljebgideecjaaGreat.P
open Go.Proofs.YtmljebgideecjaaGreatZ Go.RowKit Go.Proofs.YtmljebgideecjaaGreatW.PrintWords Go.Proofs.YtmljebgideecjaaGreatW.PrintLast Go.Proofs.YtmljebgideecjaaGreatW.PrintMore
attribute [local go_sem] max2_int min2_int max_two min_two max_three min_three max_four min_four   -- for this text's walks alone
set_option linter.unusedVariables false
set_option linter.unusedSimpArgs false
def laws_toWordS.l0 : Nat → List (S176) → List (S140) → Int → Option ((List (S140)))
  | 0, _, _, _ => none
  | k + 1, x0, x3, x4 => if x4 < (x0.length : Int) then (if 0 ≤ x4 then ((laws_toWord.f ((rd_T176 x0 x4).f0) ((rd_T176 x0 x4).f1) ((rd_T176 x0 x4).f2)).bind fun bt105 => (if x4 < (x3.length : Int) then (laws_toWordS.l0 k x0 (x3.set (x4 : Int).toNat (⟨bt105.1, bt105.2.1, bt105.2.2⟩ : S140)) (wrap64 (x4 + 1))) else (none))) else (none)) else (some x3)
def laws_toWordS.f (k : Nat) (l0 : List (S176)) : Option ((List (S140))) := if 0 ≤ (l0.length : Int) then (if ((l0.length : Int) : Int).toNat ≤ 11728124029610 then (laws_toWordS.l0 k l0 (List.replicate ((l0.length : Int) : Int).toNat z140) 0) else (none)) else (none)
set_option maxHeartbeats 8000000 in
set_option maxRecDepth 100000 in
theorem laws_toWordS.calls (k : Nat) (A0 : Option Addr) (c0 : Nat) (l0 : List (S176)) (r : List (S140)) (w : World) (hr0 : Kd.C k176 w A0 l0.length l0) (hc0 : l0.length ≤ c0) (h : laws_toWordS.f k l0 = some r) :
    Calls Tryz.prog 97 #[.slice A0 l0.length c0] w fun e w' => ∃ v0_ : Value, e = .returned (v0_) ∧ Kd.R k140 140 w' w.heap.size (fun _ => True) v0_ r ∧ Below w.heap.size w w' := by
  have hu176 := Tryz.underlying176
  have hu140 := Tryz.underlying140
  have HR0 := Aside0.mk hr0
  have HC0 := Aside0.mk hc0
  clear hr0 hc0
  have HB := Aside0.mk (Below.refl w.heap.size w)
  have H := h
  unfold laws_toWordS.f at H
  clear h
  replace H := ifP H; obtain ⟨c2, H⟩ := H
  have c2b0 := eq_true c2
  have c2b1 := decide_eq_true c2
  clear c2
  replace H := ifP H; obtain ⟨c3, H⟩ := H
  have c3b0 := eq_true c3
  have c3b1 := decide_eq_true c3
  clear c3
  obtain ⟨y101, hy101⟩ : ∃ y_ : List (S140), y_ = (List.replicate ((l0.length : Int) : Int).toNat z140) := ⟨_, rfl⟩
  replace H : (laws_toWordS.l0 k l0 y101 0) = some r := yH H hy101
  have Ny101 := Aside0.mk hy101
  clear hy101
  have H' := Aside0.mk H
  clear H
  go_enter Tryz.func97, Tryz.ntmps97
  go_wp2_with (first | ((with_reducible refine gate_dst (N := 7) rfl ?_); refine Kd.R_make k140 _ 140 rfl (N := 7) rfl 35 _ _ rfl (l0.length : Int) rfl rfl Tryz.underlying35 (.agg #[(.int .i64 0), (.int .i64 0), (.int .i64 0)]) 24 info140 rfl (by decide) (by omega) z140 (ok := fun _ => True) (okp := fun _ => True) (k140_mkM _ _ _ z140 ) (fun _ hk => hk) trivial (of_decide_eq_true (by first | (with_reducible assumption) | assumption)) (Nat.le_trans (Nat.mul_le_mul_right _ (of_decide_eq_true (by first | (with_reducible assumption) | assumption) : (l0.length : Int).toNat ≤ 11728124029610)) (by omega)) (Below.refl _ _) (Nat.le_refl _) ?_; intro vz1 wz1 hoz1 hb hg_ hnew_; clear hg_ hnew_; (first | rw [← Ny101.out] at hoz1 | (simp only [Int.reduceToNat] at hoz1; rw [← Ny101.out] at hoz1)); have HOz1 := Aside0.mk (Kd.R_lower hoz1 (below_size (hX HB.out))); replace HB := Aside0.mk (below_step (hX HB.out) hb); clear hb hoz1))
  go_loopg [4] k (fun kq v4 w' => ∃ (x3_1 : List (S140)) (x4_1 : Int), v4 = .int .i64 x4_1 ∧ Aside0 (laws_toWordS.l0 kq l0 x3_1 x4_1 = some r) ∧ Aside0 (kq ≤ k) ∧ Aside0 (Kd.R k140 140 w' w.heap.size (fun _ => True) vz1 x3_1) ∧ Aside0 (Below w.heap.size w w'))
  case atStart => exact ⟨(y101), (0), rS, H', ⟨Nat.le_refl _⟩, ⟨(rX HOz1.out)⟩, ⟨(hX HB.out)⟩⟩
  case round =>
    clear H'
    try clear c2
    try clear c2b0
    try clear c2b1
    try clear p2
    try clear c3
    try clear c3b0
    try clear c3b1
    obtain ⟨x3_1, x4_1, rfl, HA, HKy1, HO_y1, HB⟩ := hrel
    cases gk with
    | zero => exact absurd HA.out (by simp [laws_toWordS.l0])
    | succ k1 =>
      have H := HA.out
      clear HA
      simp only [laws_toWordS.l0] at H
      by_cases c6 : x4_1 < (l0.length : Int)
      · rw [if_pos c6] at H
        have c6b0 := decide_eq_true c6
        clear c6
        replace H := ifP H; obtain ⟨c7, H⟩ := H
        have c7b0 := decide_eq_true c7
        clear c7
        replace H := bE H; obtain ⟨⟨t105, t106, t107⟩, A8, H⟩ := H
        try dsimp only at H
        replace H := ifP H; obtain ⟨c9, H⟩ := H
        have c9b0 := decide_eq_true c9
        clear c9
        obtain ⟨y108, hy108⟩ : ∃ y_ : List (S140), y_ = (x3_1.set (x4_1 : Int).toNat (⟨t105, t106, t107⟩ : S140)) := ⟨_, rfl⟩
        replace H : (laws_toWordS.l0 k1 l0 y108 (wrap64 (x4_1 + 1))) = some r := yH H hy108
        have Ny108 := Aside0.mk hy108
        clear hy108
        have H' := Aside0.mk H
        clear H
        have px1 : 0 ≤ (x4_1 : Int) := of_decide_eq_true (by first | (with_reducible assumption) | assumption)
        have qx1 : x4_1 < (l0.length : Int) := of_decide_eq_true (by first | (with_reducible assumption) | assumption)
        obtain ⟨adx1, ex1, hxx1, hxx2, hxx3⟩ := at_T176 HR0.out x4_1 px1 qx1
        cases ex1
        replace hxx1 := (HB.out.cell (World.block_lt_of_cell? w _ hxx1)).trans hxx1
        replace hxx2 := (HB.out.cell (World.block_lt_of_cell? w _ hxx2)).trans hxx2
        replace hxx3 := (HB.out.cell (World.block_lt_of_cell? w _ hxx3)).trans hxx3
        replace px1 := eq_true px1
        replace qx1 := eq_true qx1
        go_wp2_with (first | (refine goesM 164 20 Tryz.func164 #[.agg #[.int .i64 ((rd_T176 l0 x4_1).f0), .int .i64 ((rd_T176 l0 x4_1).f1), .int .i64 ((rd_T176 l0 x4_1).f2)]] ?_; refine (laws_toWord.calls ((rd_T176 l0 x4_1).f0) ((rd_T176 l0 x4_1).f1) ((rd_T176 l0 x4_1).f2) t105 t106 t107 _ A8.out).mono ?_; rintro e wx1 ⟨rfl, hb⟩; refine ⟨_, rfl, ?_⟩; replace HO_y1 := Aside0.mk (Kd.R_below (rX HO_y1.out) hb); replace HB := Aside0.mk (below_step (hX HB.out) hb); clear hb; have px2 : 0 ≤ (x4_1 : Int) := of_decide_eq_true (by first | (with_reducible assumption) | assumption); have qx2 : (x4_1 : Int) < ((x3_1.length : Int) : Int) := of_decide_eq_true (by first | (with_reducible assumption) | assumption); obtain ⟨gox1, cox1, eox1, gbx1, glx1, clx1, HGx1⟩ := Kd.R_form HO_y1.out (by omega); (first | cases eox1 | (injection eox1 with ea_ en_ ec_; (first | subst ea_ | (injection ea_ with ea_; subst ea_)); subst ec_; clear en_)); have GBx1 := Aside0.mk gbx1; have GGx1 := Aside0.mk HGx1; clear gbx1 glx1 HGx1; obtain ⟨cex1, hclx1, hMx1, hccx1, hfrx1⟩ := Kd.R_elem HO_y1.out z140 (x4_1 : Int) px2 qx2; obtain rfl := k140_openM hMx1; have hxx4 : wx1.cell? ⟨gox1, (x4_1 : Int).toNat * 3, none⟩ = some (.int .i64 ((rd_T140 x3_1 x4_1).f0)) := hccx1 0 _ rfl; have hxx5 : wx1.cell? ⟨gox1, (x4_1 : Int).toNat * 3 + 1, none⟩ = some (.int .i64 ((rd_T140 x3_1 x4_1).f1)) := hccx1 1 _ rfl; have hxx6 : wx1.cell? ⟨gox1, (x4_1 : Int).toNat * 3 + 2, none⟩ = some (.int .i64 ((rd_T140 x3_1 x4_1).f2)) := hccx1 2 _ rfl; have hfx1 : wx1.frozen? ⟨gox1, (x4_1 : Int).toNat * 3, none⟩ = false := hfrx1 0; have hfx2 : wx1.frozen? ⟨gox1, (x4_1 : Int).toNat * 3 + 1, none⟩ = false := hfrx1 1; have hfx3 : wx1.frozen? ⟨gox1, (x4_1 : Int).toNat * 3 + 2, none⟩ = false := hfrx1 2; clear hclx1 hccx1 hfrx1 hMx1; replace px2 := eq_true px2; replace qx2 := eq_true qx2; have HXx1 := Aside0.mk (show Kd.R k140 140 wx1 w.heap.size (fun _ => True) (.slice (some ⟨gox1, 0, none⟩) x3_1.length cox1) x3_1 from (rX HO_y1.out)); obtain ⟨cex2, hclx2, hMx2, hccx2, hfrx2⟩ := Kd.R_elem HXx1.out z140 (x4_1 : Int) (of_decide_eq_true (by first | (with_reducible assumption) | assumption)) (by have h_ : (x4_1 : Int) < ((x3_1.length : Int) : Int) := of_decide_eq_true (by first | (with_reducible assumption) | assumption); first | exact h_ | (have e_ := (Kd.R_reads' HO_y1.out).1; omega) | simpa using h_); obtain rfl := k140_openM hMx2; have HPx1 := Kd.R_seg HXx1.out (x4_1 : Int) (of_decide_eq_true (by first | (with_reducible assumption) | assumption)) (by have h_ : (x4_1 : Int) < ((x3_1.length : Int) : Int) := of_decide_eq_true (by first | (with_reducible assumption) | assumption); first | exact h_ | (have e_ := (Kd.R_reads' HO_y1.out).1; omega) | simpa using h_) (seg := [.int .i64 t105, .int .i64 t106, .int .i64 t107]) (j := 0) hclx2 hccx2 (show 3 ≤ 3 from by decide) (x' := (⟨t105, t106, t107⟩ : S140)) (k140_mkM _ _ _ (⟨t105, t106, t107⟩ : S140) ) (fun _ hk => hk); have hxx7 := hccx2 0 _ rfl; (try simp only [show (k140).sz = 3 from rfl, Nat.mul_one, Nat.add_zero] at hxx7); have hfx4 := hfrx2 0; (try simp only [show (k140).sz = 3 from rfl, Nat.mul_one, Nat.add_zero] at hfx4); have hxx8 := hccx2 1 _ rfl; (try simp only [show (k140).sz = 3 from rfl, Nat.mul_one, Nat.add_zero] at hxx8); have hfx5 := hfrx2 1; (try simp only [show (k140).sz = 3 from rfl, Nat.mul_one, Nat.add_zero] at hfx5); have hxx9 := hccx2 2 _ rfl; (try simp only [show (k140).sz = 3 from rfl, Nat.mul_one, Nat.add_zero] at hxx9); have hfx6 := hfrx2 2; (try simp only [show (k140).sz = 3 from rfl, Nat.mul_one, Nat.add_zero] at hfx6); clear hclx2 hccx2 hfrx2 hMx2) | ((with_reducible refine gate_store (t := 140) (p := 21) rfl ?_); refine store_event (t := 140) (p := 21) (v := ?vo_wx2) (w1 := (((wx1.setCell ⟨gox1, (x4_1 : Int).toNat * 3, none⟩ (.int .i64 t105)).setCell ⟨gox1, (x4_1 : Int).toNat * 3 + 1, none⟩ (.int .i64 t106)).setCell ⟨gox1, (x4_1 : Int).toNat * 3 + 2, none⟩ (.int .i64 t107))) ?hg ?ho ?hn ?hr ?_; (case ho => rfl); (case hg => rfl); (case hn => rfl); (case hr => first | (go_simp; done) | (go_simp; rfl)); intro wx2 hw; have hg : wx1.grownBy wx2 (some gox1) := (by rw [hw]; exact HPx1.2); have hp_ : Kd.R k140 140 wx2 w.heap.size (fun _ => True) (.slice (some ⟨gox1, 0, none⟩) x3_1.length cox1) y108 := (by rw [hw, Ny108.out]; exact HPx1.1); clear HPx1; replace HO_y1 := Aside0.mk (hp_); replace HB := Aside0.mk ((by rw [hw]; exact below_set (below_set (below_set (HB.out) GBx1.out) GBx1.out) GBx1.out : Below w.heap.size w wx2)); clear hg hw hp_))
        go_roundg k1
        case measure => have := HKy1.out; omega
        case rel => exact ⟨(y108), (wrap64 (x4_1 + 1)), rS, H', ⟨by have := HKy1.out; omega⟩, ⟨(rX HO_y1.out)⟩, ⟨(hX HB.out)⟩⟩
      · rw [if_neg c6] at H
        have c6b0 := decide_eq_false c6
        clear c6
        obtain rfl := Option.some.inj H
        go_wp2
        go_ret
        exact ⟨_, rE, (rX HO_y1.out), (hX HB.out)⟩
end Go.Proofs.YtmljebgideecjaaGreat.P
namespace Go.Proofs.YtmljebgideecjaaGreat.P
open Go.Proofs.YtmljebgideecjaaGreatZ Go.RowKit Go.Proofs.YtmljebgideecjaaGreatW.PrintWords Go.Proofs.YtmljebgideecjaaGreatW.PrintLast Go.Proofs.YtmljebgideecjaaGreatW.PrintMore
attribute [local go_sem] max2_int min2_int max_two min_two max_three min_three max_four min_four   -- for this text's walks alone
set_option linter.unusedVariables false
set_option linter.unusedSimpArgs false
def laws_toRes.f (k : Nat) (a0_0 : Int) (l0_1 : List Int) : Option (Int × List Int) := (laws_toIntS.f k l0_1).bind fun t104 => (some (a0_0, t104))
set_option maxHeartbeats 8000000 in
set_option maxRecDepth 100000 in
theorem laws_toRes.calls (k : Nat) (a0_0 : Int) (A0_1 : Option Addr) (c0_1 : Nat) (l0_1 : List Int) (r1 : Int) (r2 : List Int) (w : World) (hr0_1 : Kd.C (Kd.int .i64) w A0_1 l0_1.length l0_1) (hc0_1 : l0_1.length ≤ c0_1) (h : laws_toRes.f k a0_0 l0_1 = some (r1, r2)) :
    Calls Tryz.prog 168 #[.agg #[.int .i64 a0_0, .slice A0_1 l0_1.length c0_1]] w fun e w' => ∃ v1_ : Value, e = .returned (.agg #[.int .i64 r1, v1_]) ∧ Kd.R (Kd.int .i64) 3 w' w.heap.size (fun _ => True) v1_ r2 ∧ Below w.heap.size w w' := by
  have hu117 := Tryz.underlying117
  have hu71 := Tryz.underlying71
  have HR0_1 := Aside0.mk hr0_1
  have HC0_1 := Aside0.mk hc0_1
  clear hr0_1 hc0_1
  have HB := Aside0.mk (Below.refl w.heap.size w)
  have H := h
  unfold laws_toRes.f at H
  clear h
  replace H := bE H; obtain ⟨t104, A2, H⟩ := H
  simp only [Option.some.injEq, Prod.mk.injEq] at H
  obtain ⟨rfl, rfl⟩ := H
  go_enter Tryz.func168, Tryz.ntmps168
  go_wp2_with (first | (refine boxE 1 #[.int .i64 a0_0, .slice A0_1 l0_1.length c0_1] 117 ?_; intro gbz1 hg wz1 hbox hb; have BKz1 := Aside0.mk (hbox); have GWz1 := Aside0.mk (gX' hg (hX HB.out)); have GEz1 := Aside0.mk (gX' hg (hX HB.out)); replace HB := Aside0.mk (below_step (hX HB.out) hb); clear hb hbox hg) | (refine boxE 2 #[.int .i64 0, .slice none 0 0] 71 ?_; intro gbz2 hg wz2 hbox hb; have BKz2 := Aside0.mk (hbox); have GWz2 := Aside0.mk (gX' hg (hX HB.out)); have GEz2 := Aside0.mk (gX' hg (hX HB.out)); have NBz1 := Aside0.mk (gL hg (bX BKz1.out)); have NBz2 := Aside0.mk (gG hg (bX BKz1.out)); replace BKz1 := Aside0.mk (blk_below (bX BKz1.out) hb); replace HB := Aside0.mk (below_step (hX HB.out) hb); clear hb hbox hg) | (refine boxE 3 #[.int .i64 0, .slice none 0 0] 71 ?_; intro gbz3 hg wz3 hbox hb; have BKz3 := Aside0.mk (hbox); have GWz3 := Aside0.mk (gX' hg (hX HB.out)); have GEz3 := Aside0.mk (gX' hg (hX HB.out)); have NBz3 := Aside0.mk (gL hg (bX BKz1.out)); have NBz4 := Aside0.mk (gG hg (bX BKz1.out)); have NBz5 := Aside0.mk (gL hg (bX BKz2.out)); have NBz6 := Aside0.mk (gG hg (bX BKz2.out)); replace BKz1 := Aside0.mk (blk_below (bX BKz1.out) hb); replace BKz2 := Aside0.mk (blk_below (bX BKz2.out) hb); replace HB := Aside0.mk (below_step (hX HB.out) hb); clear hb hbox hg; have hnbz1 := NBz1.out; have hncz1 := NBz2.out; have hnbz2 := NBz3.out; have hncz2 := NBz4.out; obtain ⟨hczz1, hczz2, hfzz1, hfzz2⟩ := cZ2 BKz1.out; have hnbz3 := NBz6.out; have hncz3 := NBz5.out; obtain ⟨hczz3, hczz4, hfzz3, hfzz4⟩ := cZ2 BKz3.out) | (refine goesM 47 9 Tryz.func47 #[.slice A0_1 l0_1.length c0_1] ?_; refine (laws_toIntS.calls k _ _ l0_1 t104 _ (by exact Kd.C_below HR0_1.out (hX HB.out)) HC0_1.out A2.out).mono ?_; rintro e wz4 ⟨vz1, rfl, hoz1, hb⟩; refine ⟨_, rfl, ?_⟩; have HOz1 := Aside0.mk (Kd.R_lower hoz1 (below_size (hX HB.out))); replace BKz1 := Aside0.mk (blk_below (bF BKz1.out) hb); replace BKz2 := Aside0.mk (blk_below (bF BKz2.out) hb); replace BKz3 := Aside0.mk (blk_below (g := gbz3) (o := .cells #[.int .i64 a0_0, .slice none 0 0] 71 (0, 0)) (bP BKz3.out) hb); replace HB := Aside0.mk (below_step (hX HB.out) hb); clear hb hoz1; obtain ⟨Aoz1, coz1, eoz1⟩ := Kd.R_slice HOz1.out; subst eoz1; obtain ⟨hczz5, hczz6, hfzz5, hfzz6⟩ := cZ2 BKz3.out; obtain ⟨hczz7, hczz8, hfzz7, hfzz8⟩ := cZ2 BKz2.out))
  refine bodyPost_ret (results_cell_row rfl _ _ gbz2 71 #[.int .i64 a0_0, .slice Aoz1 t104.length coz1] (0, 0) _ rfl (bP BKz2.out) Tryz.underlying71 rfl (by kernel_rfl)) rfl ?_
  exact ⟨_, rE, (rT (h := by exact Kd.R_mono (Kd.R_far (p := ⟨gbz2, 1, none⟩) (Kd.R_far (p := ⟨gbz2, 0, none⟩) (Kd.R_far (p := ⟨gbz3, 1, none⟩) (Kd.R_types (Kd.R_types HOz1.out BKz3.out (by decide)) BKz2.out (by decide)) (fun _ hk => hk.1.2) (.slice Aoz1 t104.length coz1)) (fun _ hk => hk.2) (.int .i64 a0_0)) (fun _ hk => hk.2) (.slice Aoz1 t104.length coz1)) (fun _ hk => trivial))), (hX HB.out)⟩
end Go.Proofs.YtmljebgideecjaaGreat.P
namespace Go.Proofs.YtmljebgideecjaaGreat.P
open Go.Proofs.YtmljebgideecjaaGreatZ Go.RowKit Go.Proofs.YtmljebgideecjaaGreatW.PrintWords Go.Proofs.YtmljebgideecjaaGreatW.PrintLast Go.Proofs.YtmljebgideecjaaGreatW.PrintMore
attribute [local go_sem] max2_int min2_int max_two min_two max_three min_three max_four min_four   -- for this text's walks alone
set_option linter.unusedVariables false
set_option linter.unusedSimpArgs false
def laws_toEntry.f (a0_0 : Int) (a0_1 : Int) (a0_2 : Int) : Option (Int × Int × Int) := some (a0_0, a0_1, a0_2)
set_option maxHeartbeats 8000000 in
set_option maxRecDepth 100000 in
theorem laws_toEntry.calls (a0_0 : Int) (a0_1 : Int) (a0_2 : Int) (r1 : Int) (r2 : Int) (r3 : Int) (w : World) (h : laws_toEntry.f a0_0 a0_1 a0_2 = some (r1, r2, r3)) :
    Calls Tryz.prog 219 #[.agg #[.int .i64 a0_0, .int .i64 a0_1, .int .i64 a0_2]] w fun e w' => e = .returned (.agg #[.int .i64 r1, .int .i64 r2, .int .i64 r3]) ∧ Below w.heap.size w w' := by
  have hu224 := Tryz.underlying224
  have hu165 := Tryz.underlying165
  have HB := Aside0.mk (Below.refl w.heap.size w)
  have H := h
  unfold laws_toEntry.f at H
  clear h
  simp only [Option.some.injEq, Prod.mk.injEq] at H
  obtain ⟨rfl, rfl, rfl⟩ := H
  go_enter Tryz.func219, Tryz.ntmps219
  go_wp2_with (first | (refine boxE 1 #[.int .i64 a0_0, .int .i64 a0_1, .int .i64 a0_2] 224 ?_; intro gbz1 hg wz1 hbox hb; have BKz1 := Aside0.mk (hbox); have GWz1 := Aside0.mk (gX' hg (hX HB.out)); have GEz1 := Aside0.mk (gX' hg (hX HB.out)); replace HB := Aside0.mk (below_step (hX HB.out) hb); clear hb hbox hg) | (refine boxE 2 #[.int .i64 0, .int .i64 0, .int .i64 0] 165 ?_; intro gbz2 hg wz2 hbox hb; have BKz2 := Aside0.mk (hbox); have GWz2 := Aside0.mk (gX' hg (hX HB.out)); have GEz2 := Aside0.mk (gX' hg (hX HB.out)); have NBz1 := Aside0.mk (gL hg (bX BKz1.out)); have NBz2 := Aside0.mk (gG hg (bX BKz1.out)); replace BKz1 := Aside0.mk (blk_below (bX BKz1.out) hb); replace HB := Aside0.mk (below_step (hX HB.out) hb); clear hb hbox hg) | (refine boxE 3 #[.int .i64 0, .int .i64 0, .int .i64 0] 165 ?_; intro gbz3 hg wz3 hbox hb; have BKz3 := Aside0.mk (hbox); have GWz3 := Aside0.mk (gX' hg (hX HB.out)); have GEz3 := Aside0.mk (gX' hg (hX HB.out)); have NBz3 := Aside0.mk (gL hg (bX BKz1.out)); have NBz4 := Aside0.mk (gG hg (bX BKz1.out)); have NBz5 := Aside0.mk (gL hg (bX BKz2.out)); have NBz6 := Aside0.mk (gG hg (bX BKz2.out)); replace BKz1 := Aside0.mk (blk_below (bX BKz1.out) hb); replace BKz2 := Aside0.mk (blk_below (bX BKz2.out) hb); replace HB := Aside0.mk (below_step (hX HB.out) hb); clear hb hbox hg; have hnbz1 := NBz1.out; have hncz1 := NBz2.out; have hnbz2 := NBz3.out; have hncz2 := NBz4.out; obtain ⟨hczz1, hczz2, hczz3, hfzz1, hfzz2, hfzz3⟩ := cZ3 BKz1.out; have hnbz3 := NBz6.out; have hncz3 := NBz5.out; obtain ⟨hczz4, hczz5, hczz6, hfzz4, hfzz5, hfzz6⟩ := cZ3 BKz3.out; obtain ⟨hczz7, hczz8, hczz9, hfzz7, hfzz8, hfzz9⟩ := cZ3 BKz2.out))
  refine bodyPost_ret (results_cell_row rfl _ _ gbz2 165 #[.int .i64 a0_0, .int .i64 a0_1, .int .i64 a0_2] (0, 0) _ rfl (bP BKz2.out) Tryz.underlying165 rfl (by kernel_rfl)) rfl ?_
  exact ⟨rE, (hX HB.out)⟩
end Go.Proofs.YtmljebgideecjaaGreat.P
namespace Go.Proofs.YtmljebgideecjaaGreat.P
open Go.Proofs.YtmljebgideecjaaGreatZ Go.RowKit Go.Proofs.YtmljebgideecjaaGreatW.PrintWords Go.Proofs.YtmljebgideecjaaGreatW.PrintLast Go.Proofs.YtmljebgideecjaaGreatW.PrintMore
attribute [local go_sem] max2_int min2_int max_two min_two max_three min_three max_four min_four   -- for this text's walks alone
set_option linter.unusedVariables false
set_option linter.unusedSimpArgs false
def laws_toEntryS.l0 : Nat → List (S224) → List (S165) → Int → Option ((List (S165)))
  | 0, _, _, _ => none
  | k + 1, x0, x3, x4 => if x4 < (x0.length : Int) then (if 0 ≤ x4 then ((laws_toEntry.f ((rd_T224 x0 x4).f0) ((rd_T224 x0 x4).f1) ((rd_T224 x0 x4).f2)).bind fun bt105 => (if x4 < (x3.length : Int) then (laws_toEntryS.l0 k x0 (x3.set (x4 : Int).toNat (⟨bt105.1, bt105.2.1, bt105.2.2⟩ : S165)) (wrap64 (x4 + 1))) else (none))) else (none)) else (some x3)
def laws_toEntryS.f (k : Nat) (l0 : List (S224)) : Option ((List (S165))) := if 0 ≤ (l0.length : Int) then (if ((l0.length : Int) : Int).toNat ≤ 11728124029610 then (laws_toEntryS.l0 k l0 (List.replicate ((l0.length : Int) : Int).toNat z165) 0) else (none)) else (none)
set_option maxHeartbeats 8000000 in
set_option maxRecDepth 100000 in
theorem laws_toEntryS.calls (k : Nat) (A0 : Option Addr) (c0 : Nat) (l0 : List (S224)) (r : List (S165)) (w : World) (hr0 : Kd.C k224 w A0 l0.length l0) (hc0 : l0.length ≤ c0) (h : laws_toEntryS.f k l0 = some r) :
    Calls Tryz.prog 205 #[.slice A0 l0.length c0] w fun e w' => ∃ v0_ : Value, e = .returned (v0_) ∧ Kd.R k165 165 w' w.heap.size (fun _ => True) v0_ r ∧ Below w.heap.size w w' := by
  have hu224 := Tryz.underlying224
  have hu165 := Tryz.underlying165
  have HR0 := Aside0.mk hr0
  have HC0 := Aside0.mk hc0
  clear hr0 hc0
  have HB := Aside0.mk (Below.refl w.heap.size w)
  have H := h
  unfold laws_toEntryS.f at H
  clear h
  replace H := ifP H; obtain ⟨c2, H⟩ := H
  have c2b0 := eq_true c2
  have c2b1 := decide_eq_true c2
  clear c2
  replace H := ifP H; obtain ⟨c3, H⟩ := H
  have c3b0 := eq_true c3
  have c3b1 := decide_eq_true c3
  clear c3
  obtain ⟨y101, hy101⟩ : ∃ y_ : List (S165), y_ = (List.replicate ((l0.length : Int) : Int).toNat z165) := ⟨_, rfl⟩
  replace H : (laws_toEntryS.l0 k l0 y101 0) = some r := yH H hy101
  have Ny101 := Aside0.mk hy101
  clear hy101
  have H' := Aside0.mk H
  clear H
  go_enter Tryz.func205, Tryz.ntmps205
  go_wp2_with (first | ((with_reducible refine gate_dst (N := 7) rfl ?_); refine Kd.R_make k165 _ 165 rfl (N := 7) rfl 160 _ _ rfl (l0.length : Int) rfl rfl Tryz.underlying160 (.agg #[(.int .i64 0), (.int .i64 0), (.int .i64 0)]) 24 info165 rfl (by decide) (by omega) z165 (ok := fun _ => True) (okp := fun _ => True) (k165_mkM _ _ _ z165 ) (fun _ hk => hk) trivial (of_decide_eq_true (by first | (with_reducible assumption) | assumption)) (Nat.le_trans (Nat.mul_le_mul_right _ (of_decide_eq_true (by first | (with_reducible assumption) | assumption) : (l0.length : Int).toNat ≤ 11728124029610)) (by omega)) (Below.refl _ _) (Nat.le_refl _) ?_; intro vz1 wz1 hoz1 hb hg_ hnew_; clear hg_ hnew_; (first | rw [← Ny101.out] at hoz1 | (simp only [Int.reduceToNat] at hoz1; rw [← Ny101.out] at hoz1)); have HOz1 := Aside0.mk (Kd.R_lower hoz1 (below_size (hX HB.out))); replace HB := Aside0.mk (below_step (hX HB.out) hb); clear hb hoz1))
  go_loopg [4] k (fun kq v4 w' => ∃ (x3_1 : List (S165)) (x4_1 : Int), v4 = .int .i64 x4_1 ∧ Aside0 (laws_toEntryS.l0 kq l0 x3_1 x4_1 = some r) ∧ Aside0 (kq ≤ k) ∧ Aside0 (Kd.R k165 165 w' w.heap.size (fun _ => True) vz1 x3_1) ∧ Aside0 (Below w.heap.size w w'))
  case atStart => exact ⟨(y101), (0), rS, H', ⟨Nat.le_refl _⟩, ⟨(rX HOz1.out)⟩, ⟨(hX HB.out)⟩⟩
  case round =>
    clear H'
    try clear c2
    try clear c2b0
    try clear c2b1
    try clear p2
    try clear c3
    try clear c3b0
    try clear c3b1
    obtain ⟨x3_1, x4_1, rfl, HA, HKy1, HO_y1, HB⟩ := hrel
    cases gk with
    | zero => exact absurd HA.out (by simp [laws_toEntryS.l0])
    | succ k1 =>
      have H := HA.out
      clear HA
      simp only [laws_toEntryS.l0] at H
      by_cases c6 : x4_1 < (l0.length : Int)
      · rw [if_pos c6] at H
        have c6b0 := decide_eq_true c6
        clear c6
        replace H := ifP H; obtain ⟨c7, H⟩ := H
        have c7b0 := decide_eq_true c7
        clear c7
        replace H := bE H; obtain ⟨⟨t105, t106, t107⟩, A8, H⟩ := H
        try dsimp only at H
        replace H := ifP H; obtain ⟨c9, H⟩ := H
        have c9b0 := decide_eq_true c9
        clear c9
        obtain ⟨y108, hy108⟩ : ∃ y_ : List (S165), y_ = (x3_1.set (x4_1 : Int).toNat (⟨t105, t106, t107⟩ : S165)) := ⟨_, rfl⟩
        replace H : (laws_toEntryS.l0 k1 l0 y108 (wrap64 (x4_1 + 1))) = some r := yH H hy108
        have Ny108 := Aside0.mk hy108
        clear hy108
        have H' := Aside0.mk H
        clear H
        have px1 : 0 ≤ (x4_1 : Int) := of_decide_eq_true (by first | (with_reducible assumption) | assumption)
        have qx1 : x4_1 < (l0.length : Int) := of_decide_eq_true (by first | (with_reducible assumption) | assumption)
        obtain ⟨adx1, ex1, hxx1, hxx2, hxx3⟩ := at_T224 HR0.out x4_1 px1 qx1
        cases ex1
        replace hxx1 := (HB.out.cell (World.block_lt_of_cell? w _ hxx1)).trans hxx1
        replace hxx2 := (HB.out.cell (World.block_lt_of_cell? w _ hxx2)).trans hxx2
        replace hxx3 := (HB.out.cell (World.block_lt_of_cell? w _ hxx3)).trans hxx3
        replace px1 := eq_true px1
        replace qx1 := eq_true qx1
        go_wp2_with (first | (refine goesM 219 20 Tryz.func219 #[.agg #[.int .i64 ((rd_T224 l0 x4_1).f0), .int .i64 ((rd_T224 l0 x4_1).f1), .int .i64 ((rd_T224 l0 x4_1).f2)]] ?_; refine (laws_toEntry.calls ((rd_T224 l0 x4_1).f0) ((rd_T224 l0 x4_1).f1) ((rd_T224 l0 x4_1).f2) t105 t106 t107 _ A8.out).mono ?_; rintro e wx1 ⟨rfl, hb⟩; refine ⟨_, rfl, ?_⟩; replace HO_y1 := Aside0.mk (Kd.R_below (rX HO_y1.out) hb); replace HB := Aside0.mk (below_step (hX HB.out) hb); clear hb; have px2 : 0 ≤ (x4_1 : Int) := of_decide_eq_true (by first | (with_reducible assumption) | assumption); have qx2 : (x4_1 : Int) < ((x3_1.length : Int) : Int) := of_decide_eq_true (by first | (with_reducible assumption) | assumption); obtain ⟨gox1, cox1, eox1, gbx1, glx1, clx1, HGx1⟩ := Kd.R_form HO_y1.out (by omega); (first | cases eox1 | (injection eox1 with ea_ en_ ec_; (first | subst ea_ | (injection ea_ with ea_; subst ea_)); subst ec_; clear en_)); have GBx1 := Aside0.mk gbx1; have GGx1 := Aside0.mk HGx1; clear gbx1 glx1 HGx1; obtain ⟨cex1, hclx1, hMx1, hccx1, hfrx1⟩ := Kd.R_elem HO_y1.out z165 (x4_1 : Int) px2 qx2; obtain rfl := k165_openM hMx1; have hxx4 : wx1.cell? ⟨gox1, (x4_1 : Int).toNat * 3, none⟩ = some (.int .i64 ((rd_T165 x3_1 x4_1).f0)) := hccx1 0 _ rfl; have hxx5 : wx1.cell? ⟨gox1, (x4_1 : Int).toNat * 3 + 1, none⟩ = some (.int .i64 ((rd_T165 x3_1 x4_1).f1)) := hccx1 1 _ rfl; have hxx6 : wx1.cell? ⟨gox1, (x4_1 : Int).toNat * 3 + 2, none⟩ = some (.int .i64 ((rd_T165 x3_1 x4_1).f2)) := hccx1 2 _ rfl; have hfx1 : wx1.frozen? ⟨gox1, (x4_1 : Int).toNat * 3, none⟩ = false := hfrx1 0; have hfx2 : wx1.frozen? ⟨gox1, (x4_1 : Int).toNat * 3 + 1, none⟩ = false := hfrx1 1; have hfx3 : wx1.frozen? ⟨gox1, (x4_1 : Int).toNat * 3 + 2, none⟩ = false := hfrx1 2; clear hclx1 hccx1 hfrx1 hMx1; replace px2 := eq_true px2; replace qx2 := eq_true qx2; have HXx1 := Aside0.mk (show Kd.R k165 165 wx1 w.heap.size (fun _ => True) (.slice (some ⟨gox1, 0, none⟩) x3_1.length cox1) x3_1 from (rX HO_y1.out)); obtain ⟨cex2, hclx2, hMx2, hccx2, hfrx2⟩ := Kd.R_elem HXx1.out z165 (x4_1 : Int) (of_decide_eq_true (by first | (with_reducible assumption) | assumption)) (by have h_ : (x4_1 : Int) < ((x3_1.length : Int) : Int) := of_decide_eq_true (by first | (with_reducible assumption) | assumption); first | exact h_ | (have e_ := (Kd.R_reads' HO_y1.out).1; omega) | simpa using h_); obtain rfl := k165_openM hMx2; have HPx1 := Kd.R_seg HXx1.out (x4_1 : Int) (of_decide_eq_true (by first | (with_reducible assumption) | assumption)) (by have h_ : (x4_1 : Int) < ((x3_1.length : Int) : Int) := of_decide_eq_true (by first | (with_reducible assumption) | assumption); first | exact h_ | (have e_ := (Kd.R_reads' HO_y1.out).1; omega) | simpa using h_) (seg := [.int .i64 t105, .int .i64 t106, .int .i64 t107]) (j := 0) hclx2 hccx2 (show 3 ≤ 3 from by decide) (x' := (⟨t105, t106, t107⟩ : S165)) (k165_mkM _ _ _ (⟨t105, t106, t107⟩ : S165) ) (fun _ hk => hk); have hxx7 := hccx2 0 _ rfl; (try simp only [show (k165).sz = 3 from rfl, Nat.mul_one, Nat.add_zero] at hxx7); have hfx4 := hfrx2 0; (try simp only [show (k165).sz = 3 from rfl, Nat.mul_one, Nat.add_zero] at hfx4); have hxx8 := hccx2 1 _ rfl; (try simp only [show (k165).sz = 3 from rfl, Nat.mul_one, Nat.add_zero] at hxx8); have hfx5 := hfrx2 1; (try simp only [show (k165).sz = 3 from rfl, Nat.mul_one, Nat.add_zero] at hfx5); have hxx9 := hccx2 2 _ rfl; (try simp only [show (k165).sz = 3 from rfl, Nat.mul_one, Nat.add_zero] at hxx9); have hfx6 := hfrx2 2; (try simp only [show (k165).sz = 3 from rfl, Nat.mul_one, Nat.add_zero] at hfx6); clear hclx2 hccx2 hfrx2 hMx2) | ((with_reducible refine gate_store (t := 165) (p := 21) rfl ?_); refine store_event (t := 165) (p := 21) (v := ?vo_wx2) (w1 := (((wx1.setCell ⟨gox1, (x4_1 : Int).toNat * 3, none⟩ (.int .i64 t105)).setCell ⟨gox1, (x4_1 : Int).toNat * 3 + 1, none⟩ (.int .i64 t106)).setCell ⟨gox1, (x4_1 : Int).toNat * 3 + 2, none⟩ (.int .i64 t107))) ?hg ?ho ?hn ?hr ?_; (case ho => rfl); (case hg => rfl); (case hn => rfl); (case hr => first | (go_simp; done) | (go_simp; rfl)); intro wx2 hw; have hg : wx1.grownBy wx2 (some gox1) := (by rw [hw]; exact HPx1.2); have hp_ : Kd.R k165 165 wx2 w.heap.size (fun _ => True) (.slice (some ⟨gox1, 0, none⟩) x3_1.length cox1) y108 := (by rw [hw, Ny108.out]; exact HPx1.1); clear HPx1; replace HO_y1 := Aside0.mk (hp_); replace HB := Aside0.mk ((by rw [hw]; exact below_set (below_set (below_set (HB.out) GBx1.out) GBx1.out) GBx1.out : Below w.heap.size w wx2)); clear hg hw hp_))
        go_roundg k1
        case measure => have := HKy1.out; omega
        case rel => exact ⟨(y108), (wrap64 (x4_1 + 1)), rS, H', ⟨by have := HKy1.out; omega⟩, ⟨(rX HO_y1.out)⟩, ⟨(hX HB.out)⟩⟩
      · rw [if_neg c6] at H
        have c6b0 := decide_eq_false c6
        clear c6
        obtain rfl := Option.some.inj H
        go_wp2
        go_ret
        exact ⟨_, rE, (rX HO_y1.out), (hX HB.out)⟩
end Go.Proofs.YtmljebgideecjaaGreat.P
namespace Go.Proofs.YtmljebgideecjaaGreat.P
open Go.Proofs.YtmljebgideecjaaGreatZ Go.RowKit Go.Proofs.YtmljebgideecjaaGreatW.PrintWords Go.Proofs.YtmljebgideecjaaGreatW.PrintLast Go.Proofs.YtmljebgideecjaaGreatW.PrintMore
attribute [local go_sem] max2_int min2_int max_two min_two max_three min_three max_four min_four   -- for this text's walks alone
set_option linter.unusedVariables false
set_option linter.unusedSimpArgs false
def laws_toDesc.f (k : Nat) (a0_0 : Int) (a0_1 : Int) (l0_2 : List (S224)) (a0_3 : Int) (l0_4 : List Int) : Option (Int × Int × (List (S165)) × Int × List Int) := (laws_toEntryS.f k l0_2).bind fun t104 => ((laws_toRes.f k a0_3 l0_4).bind fun bt107 => (some (a0_0, a0_1, t104, bt107.1, bt107.2)))
set_option maxHeartbeats 8000000 in
set_option maxRecDepth 100000 in
theorem laws_toDesc.calls (k : Nat) (a0_0 : Int) (a0_1 : Int) (A0_2 : Option Addr) (c0_2 : Nat) (l0_2 : List (S224)) (a0_3 : Int) (A0_4 : Option Addr) (c0_4 : Nat) (l0_4 : List Int) (r1 : Int) (r2 : Int) (r3 : List (S165)) (r4 : Int) (r5 : List Int) (w : World) (hr0_2 : Kd.C k224 w A0_2 l0_2.length l0_2) (hc0_2 : l0_2.length ≤ c0_2) (hr0_4 : Kd.C (Kd.int .i64) w A0_4 l0_4.length l0_4) (hc0_4 : l0_4.length ≤ c0_4) (h : laws_toDesc.f k a0_0 a0_1 l0_2 a0_3 l0_4 = some (r1, r2, r3, r4, r5)) :
    Calls Tryz.prog 165 #[.agg #[.int .i64 a0_0, .int .i64 a0_1, .slice A0_2 l0_2.length c0_2, .int .i64 a0_3, .slice A0_4 l0_4.length c0_4]] w fun e w' => ∃ v2_ v4_ : Value, e = .returned (.agg #[.int .i64 r1, .int .i64 r2, v2_, .int .i64 r4, v4_]) ∧ Kd.R k165 165 w' w.heap.size (fun _ => True) v2_ r3 ∧ Kd.R (Kd.int .i64) 3 w' w.heap.size (fun _ => True) v4_ r5 ∧ Below w.heap.size w w' := by
  have hu155 := Tryz.underlying155
  have hu162 := Tryz.underlying162
  have hu117 := Tryz.underlying117
  have hu71 := Tryz.underlying71
  have HR0_2 := Aside0.mk hr0_2
  have HC0_2 := Aside0.mk hc0_2
  clear hr0_2 hc0_2
  have HR0_4 := Aside0.mk hr0_4
  have HC0_4 := Aside0.mk hc0_4
  clear hr0_4 hc0_4
  have HB := Aside0.mk (Below.refl w.heap.size w)
  have H := h
  unfold laws_toDesc.f at H
  clear h
  replace H := bE H; obtain ⟨t104, A2, H⟩ := H
  replace H := bE H; obtain ⟨⟨t107, t108⟩, A3, H⟩ := H
  try dsimp only at H
  simp only [Option.some.injEq, Prod.mk.injEq] at H
  obtain ⟨rfl, rfl, rfl, rfl, rfl⟩ := H
  go_enter Tryz.func165, Tryz.ntmps165
  go_wp2_with (first | (refine boxE 1 #[.int .i64 a0_0, .int .i64 a0_1, .slice A0_2 l0_2.length c0_2, .int .i64 a0_3, .slice A0_4 l0_4.length c0_4] 155 ?_; intro gbz1 hg wz1 hbox hb; have BKz1 := Aside0.mk (hbox); have GWz1 := Aside0.mk (gX' hg (hX HB.out)); have GEz1 := Aside0.mk (gX' hg (hX HB.out)); replace HB := Aside0.mk (below_step (hX HB.out) hb); clear hb hbox hg) | (refine boxE 2 #[.int .i64 0, .int .i64 0, .slice none 0 0, .int .i64 0, .slice none 0 0] 162 ?_; intro gbz2 hg wz2 hbox hb; have BKz2 := Aside0.mk (hbox); have GWz2 := Aside0.mk (gX' hg (hX HB.out)); have GEz2 := Aside0.mk (gX' hg (hX HB.out)); have NBz1 := Aside0.mk (gL hg (bX BKz1.out)); have NBz2 := Aside0.mk (gG hg (bX BKz1.out)); replace BKz1 := Aside0.mk (blk_below (bX BKz1.out) hb); replace HB := Aside0.mk (below_step (hX HB.out) hb); clear hb hbox hg) | (refine boxE 3 #[.int .i64 0, .int .i64 0, .slice none 0 0, .int .i64 0, .slice none 0 0] 162 ?_; intro gbz3 hg wz3 hbox hb; have BKz3 := Aside0.mk (hbox); have GWz3 := Aside0.mk (gX' hg (hX HB.out)); have GEz3 := Aside0.mk (gX' hg (hX HB.out)); have NBz3 := Aside0.mk (gL hg (bX BKz1.out)); have NBz4 := Aside0.mk (gG hg (bX BKz1.out)); have NBz5 := Aside0.mk (gL hg (bX BKz2.out)); have NBz6 := Aside0.mk (gG hg (bX BKz2.out)); replace BKz1 := Aside0.mk (blk_below (bX BKz1.out) hb); replace BKz2 := Aside0.mk (blk_below (bX BKz2.out) hb); replace HB := Aside0.mk (below_step (hX HB.out) hb); clear hb hbox hg; have hnbz1 := NBz1.out; have hncz1 := NBz2.out; have hnbz2 := NBz3.out; have hncz2 := NBz4.out; obtain ⟨hczz1, hczz2, hczz3, hczz4, hczz5, hfzz1, hfzz2, hfzz3, hfzz4, hfzz5⟩ := cZ5 BKz1.out; have hnbz3 := NBz6.out; have hncz3 := NBz5.out; obtain ⟨hczz6, hczz7, hczz8, hczz9, hczz10, hfzz6, hfzz7, hfzz8, hfzz9, hfzz10⟩ := cZ5 BKz3.out) | (refine goesM 205 12 Tryz.func205 #[.slice A0_2 l0_2.length c0_2] ?_; refine (laws_toEntryS.calls k _ _ l0_2 t104 _ (by exact Kd.C_below HR0_2.out (hX HB.out)) HC0_2.out A2.out).mono ?_; rintro e wz4 ⟨vz1, rfl, hoz1, hb⟩; refine ⟨_, rfl, ?_⟩; have HOz1 := Aside0.mk (Kd.R_lower hoz1 (below_size (hX HB.out))); replace BKz1 := Aside0.mk (blk_below (bF BKz1.out) hb); replace BKz2 := Aside0.mk (blk_below (bF BKz2.out) hb); replace BKz3 := Aside0.mk (blk_below (g := gbz3) (o := .cells #[.int .i64 a0_0, .int .i64 a0_1, .slice none 0 0, .int .i64 0, .slice none 0 0] 162 (0, 0)) (bP BKz3.out) hb); replace HB := Aside0.mk (below_step (hX HB.out) hb); clear hb hoz1; obtain ⟨Aoz1, coz1, eoz1⟩ := Kd.R_slice HOz1.out; subst eoz1; obtain ⟨hczz11, hczz12, hczz13, hczz14, hczz15, hfzz11, hfzz12, hfzz13, hfzz14, hfzz15⟩ := cZ5 BKz3.out; obtain ⟨hczz16, hczz17, hczz18, hczz19, hczz20, hfzz16, hfzz17, hfzz18, hfzz19, hfzz20⟩ := cZ5 BKz1.out) | (refine goesM 168 16 Tryz.func168 #[.agg #[.int .i64 a0_3, .slice A0_4 l0_4.length c0_4]] ?_; refine (laws_toRes.calls k a0_3 _ _ l0_4 t107 t108 _ (by exact Kd.C_below HR0_4.out (hX HB.out)) HC0_4.out A3.out).mono ?_; rintro e wz5 ⟨vz2, rfl, hoz1, hb⟩; refine ⟨_, rfl, ?_⟩; have HOz2 := Aside0.mk (Kd.R_lower hoz1 (below_size (hX HB.out))); replace HOz1 := Aside0.mk (Kd.R_below (rT (h := by exact (Kd.R_mono (Kd.R_far (p := ⟨gbz3, 2, none⟩) (Kd.R_types HOz1.out BKz3.out (by decide)) (fun _ hk => hk.2) (.slice Aoz1 t104.length coz1)) (fun _ h_ => h_.1)))) hb); replace BKz1 := Aside0.mk (blk_below (bF BKz1.out) hb); replace BKz2 := Aside0.mk (blk_below (bF BKz2.out) hb); replace BKz3 := Aside0.mk (blk_below (g := gbz3) (o := .cells #[.int .i64 a0_0, .int .i64 a0_1, .slice Aoz1 t104.length coz1, .int .i64 0, .slice none 0 0] 162 (0, 0)) (bP BKz3.out) hb); replace HB := Aside0.mk (below_step (hX HB.out) hb); clear hb hoz1; obtain ⟨hczz21, hczz22, hczz23, hczz24, hczz25, hfzz21, hfzz22, hfzz23, hfzz24, hfzz25⟩ := cZ5 BKz3.out; obtain ⟨Aoz2, coz2, eoz2⟩ := Kd.R_slice HOz2.out; subst eoz2; obtain ⟨hczz26, hczz27, hczz28, hczz29, hczz30, hfzz26, hfzz27, hfzz28, hfzz29, hfzz30⟩ := cZ5 BKz2.out))
  refine bodyPost_ret (results_cell_row rfl _ _ gbz2 162 #[.int .i64 a0_0, .int .i64 a0_1, .slice Aoz1 t104.length coz1, .int .i64 t107, .slice Aoz2 t108.length coz2] (0, 0) _ rfl (bP BKz2.out) Tryz.underlying162 rfl (by kernel_rfl)) rfl ?_
  exact ⟨_, _, rE, (rT (h := by exact Kd.R_mono (Kd.R_far (p := ⟨gbz2, 4, none⟩) (Kd.R_far (p := ⟨gbz2, 3, none⟩) (Kd.R_far (p := ⟨gbz2, 2, none⟩) (Kd.R_far (p := ⟨gbz2, 1, none⟩) (Kd.R_far (p := ⟨gbz2, 0, none⟩) (Kd.R_far (p := ⟨gbz3, 4, none⟩) (Kd.R_far (p := ⟨gbz3, 3, none⟩) (Kd.R_types (Kd.R_types HOz1.out BKz3.out (by decide)) BKz2.out (by decide)) (fun _ hk => hk.1.2) (.int .i64 t107)) (fun _ hk => hk.1.2) (.slice Aoz2 t108.length coz2)) (fun _ hk => hk.2) (.int .i64 a0_0)) (fun _ hk => hk.2) (.int .i64 a0_1)) (fun _ hk => hk.2) (.slice Aoz1 t104.length coz1)) (fun _ hk => hk.2) (.int .i64 t107)) (fun _ hk => hk.2) (.slice Aoz2 t108.length coz2)) (fun _ hk => trivial))), (rT (h := by exact Kd.R_mono (Kd.R_far (p := ⟨gbz2, 4, none⟩) (Kd.R_far (p := ⟨gbz2, 3, none⟩) (Kd.R_far (p := ⟨gbz2, 2, none⟩) (Kd.R_far (p := ⟨gbz2, 1, none⟩) (Kd.R_far (p := ⟨gbz2, 0, none⟩) (Kd.R_far (p := ⟨gbz3, 4, none⟩) (Kd.R_far (p := ⟨gbz3, 3, none⟩) (Kd.R_types (Kd.R_types HOz2.out BKz3.out (by decide)) BKz2.out (by decide)) (fun _ hk => hk.1.2) (.int .i64 t107)) (fun _ hk => hk.1.2) (.slice Aoz2 t108.length coz2)) (fun _ hk => hk.2) (.int .i64 a0_0)) (fun _ hk => hk.2) (.int .i64 a0_1)) (fun _ hk => hk.2) (.slice Aoz1 t104.length coz1)) (fun _ hk => hk.2) (.int .i64 t107)) (fun _ hk => hk.2) (.slice Aoz2 t108.length coz2)) (fun _ hk => trivial))), (hX HB.out)⟩
end Go.Proofs.YtmljebgideecjaaGreat.P
namespace Go.Proofs.YtmljebgideecjaaGreat.P
open Go.Proofs.YtmljebgideecjaaGreatZ Go.RowKit Go.Proofs.YtmljebgideecjaaGreatW.PrintWords Go.Proofs.YtmljebgideecjaaGreatW.PrintLast Go.Proofs.YtmljebgideecjaaGreatW.PrintMore
attribute [local go_sem] max2_int min2_int max_two min_two max_three min_three max_four min_four   -- for this text's walks alone
set_option linter.unusedVariables false
set_option linter.unusedSimpArgs false
def laws_toDescS.l0 : Nat → List (S155) → List (S162) → Int → Option ((List (S162)))
  | 0, _, _, _ => none
  | k + 1, x0, x3, x4 => if x4 < (x0.length : Int) then (if 0 ≤ x4 then ((laws_toDesc.f k ((rd_T155 x0 x4).f0) ((rd_T155 x0 x4).f1) ((rd_T155 x0 x4).f2) ((rd_T155 x0 x4).f3.f0) ((rd_T155 x0 x4).f3.f1)).bind fun bt105 => (if x4 < (x3.length : Int) then (laws_toDescS.l0 k x0 (x3.set (x4 : Int).toNat (⟨bt105.1, bt105.2.1, bt105.2.2.1, (⟨bt105.2.2.2.1, bt105.2.2.2.2⟩ : S71)⟩ : S162)) (wrap64 (x4 + 1))) else (none))) else (none)) else (some x3)
def laws_toDescS.f (k : Nat) (l0 : List (S155)) : Option ((List (S162))) := if 0 ≤ (l0.length : Int) then (if ((l0.length : Int) : Int).toNat ≤ 3909374676536 then (laws_toDescS.l0 k l0 (List.replicate ((l0.length : Int) : Int).toNat z162) 0) else (none)) else (none)
set_option maxHeartbeats 8000000 in
set_option maxRecDepth 100000 in
theorem laws_toDescS.calls (k : Nat) (A0 : Option Addr) (c0 : Nat) (l0 : List (S155)) (r : List (S162)) (w : World) (hr0 : Kd.C k155 w A0 l0.length l0) (hc0 : l0.length ≤ c0) (h : laws_toDescS.f k l0 = some r) :
    Calls Tryz.prog 98 #[.slice A0 l0.length c0] w fun e w' => ∃ v0_ : Value, e = .returned (v0_) ∧ Kd.S k162 162 w' w.heap.size (fun _ => True) v0_ r ∧ Below w.heap.size w w' := by
  have hu155 := Tryz.underlying155
  have hu162 := Tryz.underlying162
  have HR0 := Aside0.mk hr0
  have HC0 := Aside0.mk hc0
  clear hr0 hc0
  have HB := Aside0.mk (Below.refl w.heap.size w)
  have H := h
  unfold laws_toDescS.f at H
  clear h
  replace H := ifP H; obtain ⟨c2, H⟩ := H
  have c2b0 := eq_true c2
  have c2b1 := decide_eq_true c2
  clear c2
  replace H := ifP H; obtain ⟨c3, H⟩ := H
  have c3b0 := eq_true c3
  have c3b1 := decide_eq_true c3
  clear c3
  obtain ⟨y101, hy101⟩ : ∃ y_ : List (S162), y_ = (List.replicate ((l0.length : Int) : Int).toNat z162) := ⟨_, rfl⟩
  replace H : (laws_toDescS.l0 k l0 y101 0) = some r := yH H hy101
  have Ny101 := Aside0.mk hy101
  clear hy101
  have H' := Aside0.mk H
  clear H
  go_enter Tryz.func98, Tryz.ntmps98
  go_wp2_with (first | ((with_reducible refine gate_dst (N := 7) rfl ?_); refine Kd.S_make k162 _ 162 rfl (N := 7) rfl 36 _ _ rfl (l0.length : Int) rfl rfl Tryz.underlying36 (.agg #[(.int .i64 0), (.int .i64 0), (.slice none 0 0), (.int .i64 0), (.slice none 0 0)]) 72 info162 rfl (by decide) (by omega) z162 (ok := fun _ => True) (okp := fun _ => True) (k162_mkM _ _ _ z162 (Kd.R_nil _ _ _ _ _) (Kd.R_nil _ _ _ _ _)) (fun _ hk => hk) trivial (of_decide_eq_true (by first | (with_reducible assumption) | assumption)) (Nat.le_trans (Nat.mul_le_mul_right _ (of_decide_eq_true (by first | (with_reducible assumption) | assumption) : (l0.length : Int).toNat ≤ 3909374676536)) (by omega)) (Below.refl _ _) (Nat.le_refl _) ?_; intro vz1 wz1 hoz1 hb hg_ hnew_; clear hg_ hnew_; (first | rw [← Ny101.out] at hoz1 | (simp only [Int.reduceToNat] at hoz1; rw [← Ny101.out] at hoz1)); have HOz1 := Aside0.mk (Kd.S_lower hoz1 (below_size (hX HB.out))); replace HB := Aside0.mk (below_step (hX HB.out) hb); clear hb hoz1))
  go_loopg [4] k (fun kq v4 w' => ∃ (x3_1 : List (S162)) (x4_1 : Int), v4 = .int .i64 x4_1 ∧ Aside0 (laws_toDescS.l0 kq l0 x3_1 x4_1 = some r) ∧ Aside0 (kq ≤ k) ∧ Aside0 (Kd.S k162 162 w' w.heap.size (fun _ => True) vz1 x3_1) ∧ Aside0 (Below w.heap.size w w'))
  case atStart => exact ⟨(y101), (0), rS, H', ⟨Nat.le_refl _⟩, ⟨(sX HOz1.out)⟩, ⟨(hX HB.out)⟩⟩
  case round =>
    clear H'
    try clear c2
    try clear c2b0
    try clear c2b1
    try clear p2
    try clear c3
    try clear c3b0
    try clear c3b1
    obtain ⟨x3_1, x4_1, rfl, HA, HKy1, HO_y1, HB⟩ := hrel
    cases gk with
    | zero => exact absurd HA.out (by simp [laws_toDescS.l0])
    | succ k1 =>
      have H := HA.out
      clear HA
      simp only [laws_toDescS.l0] at H
      by_cases c6 : x4_1 < (l0.length : Int)
      · rw [if_pos c6] at H
        have c6b0 := decide_eq_true c6
        clear c6
        replace H := ifP H; obtain ⟨c7, H⟩ := H
        have c7b0 := decide_eq_true c7
        clear c7
        replace H := bE H; obtain ⟨⟨t105, t106, t107, t110, t111⟩, A8, H⟩ := H
        try dsimp only at H
        replace H := ifP H; obtain ⟨c9, H⟩ := H
        have c9b0 := decide_eq_true c9
        clear c9
        obtain ⟨y114, hy114⟩ : ∃ y_ : List (S162), y_ = (x3_1.set (x4_1 : Int).toNat (⟨t105, t106, t107, (⟨t110, t111⟩ : S71)⟩ : S162)) := ⟨_, rfl⟩
        replace H : (laws_toDescS.l0 k1 l0 y114 (wrap64 (x4_1 + 1))) = some r := yH H hy114
        have Ny114 := Aside0.mk hy114
        clear hy114
        have H' := Aside0.mk H
        clear H
        have px1 : 0 ≤ (x4_1 : Int) := of_decide_eq_true (by first | (with_reducible assumption) | assumption)
        have qx1 : x4_1 < (l0.length : Int) := of_decide_eq_true (by first | (with_reducible assumption) | assumption)
        obtain ⟨adx1, Ax1, cx1, Ax2, cx2, ex1, hxx1, hxx2, hxx3, hxx4, hxx5, hlx1, hix1, hlx2, hix2⟩ := at_T155 HR0.out x4_1 px1 qx1
        cases ex1
        replace hxx1 := (HB.out.cell (World.block_lt_of_cell? w _ hxx1)).trans hxx1
        replace hxx2 := (HB.out.cell (World.block_lt_of_cell? w _ hxx2)).trans hxx2
        replace hxx3 := (HB.out.cell (World.block_lt_of_cell? w _ hxx3)).trans hxx3
        replace hxx4 := (HB.out.cell (World.block_lt_of_cell? w _ hxx4)).trans hxx4
        replace hxx5 := (HB.out.cell (World.block_lt_of_cell? w _ hxx5)).trans hxx5
        have HRx1 := Aside0.mk hix1
        have HCx1 := Aside0.mk hlx1
        clear hix1 hlx1
        have HRx2 := Aside0.mk hix2
        have HCx2 := Aside0.mk hlx2
        clear hix2 hlx2
        replace px1 := eq_true px1
        replace qx1 := eq_true qx1
        go_wp2_with (first | (refine goesM 165 20 Tryz.func165 #[.agg #[.int .i64 ((rd_T155 l0 x4_1).f0), .int .i64 ((rd_T155 l0 x4_1).f1), .slice Ax1 ((rd_T155 l0 x4_1).f2).length cx1, .int .i64 ((rd_T155 l0 x4_1).f3.f0), .slice Ax2 ((rd_T155 l0 x4_1).f3.f1).length cx2]] ?_; refine (laws_toDesc.calls k1 ((rd_T155 l0 x4_1).f0) ((rd_T155 l0 x4_1).f1) _ _ ((rd_T155 l0 x4_1).f2) ((rd_T155 l0 x4_1).f3.f0) _ _ ((rd_T155 l0 x4_1).f3.f1) t105 t106 t107 t110 t111 _ (cC HRx1.out HB.out) HCx1.out (cC HRx2.out HB.out) HCx2.out A8.out).mono ?_; rintro e wx1 ⟨vx1, vx2, rfl, hox1, hox2, hb⟩; refine ⟨_, rfl, ?_⟩; have HOx1 := Aside0.mk (Kd.R_lower hox1 (below_size (hX HB.out))); have HOx2 := Aside0.mk (Kd.R_lower hox2 (below_size (hX HB.out))); replace HO_y1 := Aside0.mk (Kd.S_mono (Kd.S_told (Kd.S_told (Kd.S_old (sX HO_y1.out) hb) (Kd.R_base hox1)) (Kd.R_base hox2)) (fun _ h_ => h_.1)); replace HB := Aside0.mk (below_step (hX HB.out) hb); clear hb hox1 hox2; have px2 : 0 ≤ (x4_1 : Int) := of_decide_eq_true (by first | (with_reducible assumption) | assumption); have qx2 : (x4_1 : Int) < ((x3_1.length : Int) : Int) := of_decide_eq_true (by first | (with_reducible assumption) | assumption); obtain ⟨gox1, cox1, eox1, gbx1, glx1, clx1, HGx1⟩ := Kd.S_form HO_y1.out (by omega); (first | cases eox1 | (injection eox1 with ea_ en_ ec_; (first | subst ea_ | (injection ea_ with ea_; subst ea_)); subst ec_; clear en_)); have GBx1 := Aside0.mk gbx1; have GGx1 := Aside0.mk HGx1; clear gbx1 glx1 HGx1; obtain ⟨_, cex1, hclx1, hMx1, hccx1, hfrx1, _, _⟩ := Kd.S_elem HO_y1.out z162 (x4_1 : Int) px2 qx2; obtain ⟨vex1, vex2, rfl, gex1, gex2⟩ := k162_openM hMx1; have hxx6 : wx1.cell? ⟨gox1, (x4_1 : Int).toNat * 5, none⟩ = some (.int .i64 ((rd_T162 x3_1 x4_1).f0)) := hccx1 0 _ rfl; have hxx7 : wx1.cell? ⟨gox1, (x4_1 : Int).toNat * 5 + 1, none⟩ = some (.int .i64 ((rd_T162 x3_1 x4_1).f1)) := hccx1 1 _ rfl; have hxx8 : wx1.cell? ⟨gox1, (x4_1 : Int).toNat * 5 + 2, none⟩ = some (vex1) := hccx1 2 _ rfl; have hxx9 : wx1.cell? ⟨gox1, (x4_1 : Int).toNat * 5 + 3, none⟩ = some (.int .i64 ((rd_T162 x3_1 x4_1).f3.f0)) := hccx1 3 _ rfl; have hxx10 : wx1.cell? ⟨gox1, (x4_1 : Int).toNat * 5 + 4, none⟩ = some (vex2) := hccx1 4 _ rfl; have hfx1 : wx1.frozen? ⟨gox1, (x4_1 : Int).toNat * 5, none⟩ = false := hfrx1 0; have hfx2 : wx1.frozen? ⟨gox1, (x4_1 : Int).toNat * 5 + 1, none⟩ = false := hfrx1 1; have hfx3 : wx1.frozen? ⟨gox1, (x4_1 : Int).toNat * 5 + 2, none⟩ = false := hfrx1 2; have hfx4 : wx1.frozen? ⟨gox1, (x4_1 : Int).toNat * 5 + 3, none⟩ = false := hfrx1 3; have hfx5 : wx1.frozen? ⟨gox1, (x4_1 : Int).toNat * 5 + 4, none⟩ = false := hfrx1 4; clear hclx1 hccx1 hfrx1 hMx1; replace px2 := eq_true px2; replace qx2 := eq_true qx2; obtain ⟨Aox1, cox2, eox2⟩ := Kd.R_slice HOx1.out; subst eox2; obtain ⟨Aox2, cox3, eox3⟩ := Kd.R_slice HOx2.out; subst eox3; have n_ := Aside0.mk (Kd.S_mono (ok' := (fun k_ => some k_ ≠ (.slice Aox1 t107.length cox2 : Value).ownBlock ∧ some k_ ≠ (.slice Aox2 t111.length cox3 : Value).ownBlock)) HO_y1.out (fun k_ hk => ⟨hk.1.2, hk.2⟩)); clear HO_y1; have HO_y1 := n_; clear n_; have HXx1 := Aside0.mk (show Kd.S k162 162 wx1 w.heap.size (fun k_ => ((fun _ => True)) k_ ∧ ¬ ((fun k_ => some k_ = (.slice Aox1 t107.length cox2 : Value).ownBlock ∨ some k_ = (.slice Aox2 t111.length cox3 : Value).ownBlock)) k_) (.slice (some ⟨gox1, 0, none⟩) x3_1.length cox1) x3_1 from (by (with_reducible repeat (first | apply Kd.S_alloc | apply Kd.S_drewN | apply Kd.S_drew)); exact Kd.S_mono HO_y1.out (fun k_ hk => ⟨trivial, fun e_ => e_.elim (fun h_ => hk.1 h_) (fun h_ => hk.2 h_)⟩))); obtain ⟨okix1, cex2, hclx2, hMx2, hccx2, hfrx2, hokix1, hHx1⟩ := Kd.S_elem HXx1.out z162 (x4_1 : Int) (of_decide_eq_true (by first | (with_reducible assumption) | assumption)) (by have h_ : (x4_1 : Int) < ((x3_1.length : Int) : Int) := of_decide_eq_true (by first | (with_reducible assumption) | assumption); first | exact h_ | (have e_ := (Kd.S_reads' HO_y1.out).1; omega) | simpa using h_); obtain ⟨vex3, vex4, rfl, gex3, gex4⟩ := k162_openM hMx2; have HPx1 := Kd.S_seg hHx1 (of_decide_eq_true (by first | (with_reducible assumption) | assumption)) (by have h_ : (x4_1 : Int) < ((x3_1.length : Int) : Int) := of_decide_eq_true (by first | (with_reducible assumption) | assumption); first | exact h_ | (have e_ := (Kd.S_reads' HO_y1.out).1; omega) | simpa using h_) (seg := [.int .i64 t105, .int .i64 t106, .slice Aox1 t107.length cox2, .int .i64 t110, .slice Aox2 t111.length cox3]) (j := 0) (show 5 ≤ 5 from by decide) (x' := (⟨t105, t106, t107, (⟨t110, t111⟩ : S71)⟩ : S162)) (k162_mkM _ _ _ (⟨t105, t106, t107, (⟨t110, t111⟩ : S71)⟩ : S162) (Kd.R_mono (Kd.R_tight rfl (Kd.R_mono (ok' := fun k_ => ((fun _ => True)) k_ ∧ k_ ≠ gox1) (Kd.R_apart' (HOx1.out) (Kd.S_typed HO_y1.out) (by decide)) (fun k_ hk => ⟨trivial, fun e_ => (hk.2) (by rw [e_]; rfl)⟩))) (fun _ h_ => Or.inr (Or.inl h_))) (Kd.R_mono (Kd.R_tight rfl (Kd.R_mono (ok' := fun k_ => ((fun _ => True)) k_ ∧ k_ ≠ gox1) (Kd.R_apart' (HOx2.out) (Kd.S_typed HO_y1.out) (by decide)) (fun k_ hk => ⟨trivial, fun e_ => (hk.2) (by rw [e_]; rfl)⟩))) (fun _ h_ => Or.inr (Or.inr (h_))))) (fun _ hk => hk) (fun k_ hk_ => hk_.elim (fun h_ => ((Kd.R_mono (ok' := fun k_ => ((fun _ => True)) k_ ∧ k_ ≠ gox1) (Kd.R_apart' (HOx1.out) (Kd.S_typed HO_y1.out) (by decide)) (fun k_ hk => ⟨trivial, fun e_ => (hk.2) (by rw [e_]; rfl)⟩))).1 k_ h_.symm) (fun h_ => ((Kd.R_mono (ok' := fun k_ => ((fun _ => True)) k_ ∧ k_ ≠ gox1) (Kd.R_apart' (HOx2.out) (Kd.S_typed HO_y1.out) (by decide)) (fun k_ hk => ⟨trivial, fun e_ => (hk.2) (by rw [e_]; rfl)⟩))).1 k_ h_.symm)); have hxx11 := hccx2 0 _ rfl; (try simp only [show (k162).sz = 5 from rfl, Nat.mul_one, Nat.add_zero] at hxx11); have hfx6 := hfrx2 0; (try simp only [show (k162).sz = 5 from rfl, Nat.mul_one, Nat.add_zero] at hfx6); have hxx12 := hccx2 1 _ rfl; (try simp only [show (k162).sz = 5 from rfl, Nat.mul_one, Nat.add_zero] at hxx12); have hfx7 := hfrx2 1; (try simp only [show (k162).sz = 5 from rfl, Nat.mul_one, Nat.add_zero] at hfx7); have hxx13 := hccx2 2 _ rfl; (try simp only [show (k162).sz = 5 from rfl, Nat.mul_one, Nat.add_zero] at hxx13); have hfx8 := hfrx2 2; (try simp only [show (k162).sz = 5 from rfl, Nat.mul_one, Nat.add_zero] at hfx8); have hxx14 := hccx2 3 _ rfl; (try simp only [show (k162).sz = 5 from rfl, Nat.mul_one, Nat.add_zero] at hxx14); have hfx9 := hfrx2 3; (try simp only [show (k162).sz = 5 from rfl, Nat.mul_one, Nat.add_zero] at hfx9); have hxx15 := hccx2 4 _ rfl; (try simp only [show (k162).sz = 5 from rfl, Nat.mul_one, Nat.add_zero] at hxx15); have hfx10 := hfrx2 4; (try simp only [show (k162).sz = 5 from rfl, Nat.mul_one, Nat.add_zero] at hfx10); clear hclx2 hccx2 hfrx2 hMx2 hokix1 hHx1) | ((with_reducible refine gate_store (t := 162) (p := 21) rfl ?_); refine store_event (t := 162) (p := 21) (v := ?vo_wx2) (w1 := (((((wx1.setCell ⟨gox1, (x4_1 : Int).toNat * 5, none⟩ (.int .i64 t105)).setCell ⟨gox1, (x4_1 : Int).toNat * 5 + 1, none⟩ (.int .i64 t106)).setCell ⟨gox1, (x4_1 : Int).toNat * 5 + 2, none⟩ (.slice Aox1 t107.length cox2)).setCell ⟨gox1, (x4_1 : Int).toNat * 5 + 3, none⟩ (.int .i64 t110)).setCell ⟨gox1, (x4_1 : Int).toNat * 5 + 4, none⟩ (.slice Aox2 t111.length cox3))) ?hg ?ho ?hn ?hr ?_; (case ho => rfl); (case hg => rfl); (case hn => rfl); (case hr => first | (go_simp; done) | (go_simp; rfl)); intro wx2 hw; have hg : wx1.grownBy wx2 (some gox1) := (by rw [hw]; exact HPx1.2); have hp_ : Kd.S k162 162 wx2 w.heap.size (fun _ => True) (.slice (some ⟨gox1, 0, none⟩) x3_1.length cox1) y114 := (by rw [hw, Ny114.out]; exact HPx1.1); clear HPx1; replace HO_y1 := Aside0.mk (hp_); replace HB := Aside0.mk ((by rw [hw]; exact below_set (below_set (below_set (below_set (below_set (HB.out) GBx1.out) GBx1.out) GBx1.out) GBx1.out) GBx1.out : Below w.heap.size w wx2)); clear HOx1 HOx2; clear hg hw hp_))
        go_roundg k1
        case measure => have := HKy1.out; omega
        case rel => exact ⟨(y114), (wrap64 (x4_1 + 1)), rS, H', ⟨by have := HKy1.out; omega⟩, ⟨(sX HO_y1.out)⟩, ⟨(hX HB.out)⟩⟩
      · rw [if_neg c6] at H
        have c6b0 := decide_eq_false c6
        clear c6
        obtain rfl := Option.some.inj H
        go_wp2
        go_ret
        exact ⟨_, rE, (sX HO_y1.out), (hX HB.out)⟩
end Go.Proofs.YtmljebgideecjaaGreat.P
namespace Go.Proofs.YtmljebgideecjaaGreat.P
open Go.Proofs.YtmljebgideecjaaGreatZ Go.RowKit Go.Proofs.YtmljebgideecjaaGreatW.PrintWords Go.Proofs.YtmljebgideecjaaGreatW.PrintLast Go.Proofs.YtmljebgideecjaaGreatW.PrintMore
attribute [local go_sem] max2_int min2_int max_two min_two max_three min_three max_four min_four   -- for this text's walks alone
set_option linter.unusedVariables false
set_option linter.unusedSimpArgs false
def laws_toMem.f (k : Nat) (l0_0 : List (S176)) (l0_1 : List (S155)) : Option ((List (S140)) × (List (S162))) := (laws_toWordS.f k l0_0).bind fun t104 => ((laws_toDescS.f k l0_1).bind fun t107 => (some (t104, t107)))
set_option maxHeartbeats 8000000 in
set_option maxRecDepth 100000 in
theorem laws_toMem.calls (k : Nat) (A0_0 : Option Addr) (c0_0 : Nat) (l0_0 : List (S176)) (A0_1 : Option Addr) (c0_1 : Nat) (l0_1 : List (S155)) (r1 : List (S140)) (r2 : List (S162)) (w : World) (hr0_0 : Kd.C k176 w A0_0 l0_0.length l0_0) (hc0_0 : l0_0.length ≤ c0_0) (hr0_1 : Kd.C k155 w A0_1 l0_1.length l0_1) (hc0_1 : l0_1.length ≤ c0_1) (h : laws_toMem.f k l0_0 l0_1 = some (r1, r2)) :
    Calls Tryz.prog 44 #[.agg #[.slice A0_0 l0_0.length c0_0, .slice A0_1 l0_1.length c0_1]] w fun e w' => ∃ v0_ v1_ : Value, e = .returned (.agg #[v0_, v1_]) ∧ Kd.R k140 140 w' w.heap.size (fun _ => True) v0_ r1 ∧ Kd.S k162 162 w' w.heap.size (fun _ => True) v1_ r2 ∧ Below w.heap.size w w' := by
  have hu25 := Tryz.underlying25
  have hu38 := Tryz.underlying38
  have HR0_0 := Aside0.mk hr0_0
  have HC0_0 := Aside0.mk hc0_0
  clear hr0_0 hc0_0
  have HR0_1 := Aside0.mk hr0_1
  have HC0_1 := Aside0.mk hc0_1
  clear hr0_1 hc0_1
  have HB := Aside0.mk (Below.refl w.heap.size w)
  have H := h
  unfold laws_toMem.f at H
  clear h
  replace H := bE H; obtain ⟨t104, A2, H⟩ := H
  replace H := bE H; obtain ⟨t107, A3, H⟩ := H
  simp only [Option.some.injEq, Prod.mk.injEq] at H
  obtain ⟨rfl, rfl⟩ := H
  go_enter Tryz.func44, Tryz.ntmps44
  go_wp2_with (first | (refine boxE 1 #[.slice A0_0 l0_0.length c0_0, .slice A0_1 l0_1.length c0_1] 25 ?_; intro gbz1 hg wz1 hbox hb; have BKz1 := Aside0.mk (hbox); have GWz1 := Aside0.mk (gX' hg (hX HB.out)); have GEz1 := Aside0.mk (gX' hg (hX HB.out)); replace HB := Aside0.mk (below_step (hX HB.out) hb); clear hb hbox hg) | (refine boxE 2 #[.slice none 0 0, .slice none 0 0] 38 ?_; intro gbz2 hg wz2 hbox hb; have BKz2 := Aside0.mk (hbox); have GWz2 := Aside0.mk (gX' hg (hX HB.out)); have GEz2 := Aside0.mk (gX' hg (hX HB.out)); have NBz1 := Aside0.mk (gL hg (bX BKz1.out)); have NBz2 := Aside0.mk (gG hg (bX BKz1.out)); replace BKz1 := Aside0.mk (blk_below (bX BKz1.out) hb); replace HB := Aside0.mk (below_step (hX HB.out) hb); clear hb hbox hg) | (refine boxE 3 #[.slice none 0 0, .slice none 0 0] 38 ?_; intro gbz3 hg wz3 hbox hb; have BKz3 := Aside0.mk (hbox); have GWz3 := Aside0.mk (gX' hg (hX HB.out)); have GEz3 := Aside0.mk (gX' hg (hX HB.out)); have NBz3 := Aside0.mk (gL hg (bX BKz1.out)); have NBz4 := Aside0.mk (gG hg (bX BKz1.out)); have NBz5 := Aside0.mk (gL hg (bX BKz2.out)); have NBz6 := Aside0.mk (gG hg (bX BKz2.out)); replace BKz1 := Aside0.mk (blk_below (bX BKz1.out) hb); replace BKz2 := Aside0.mk (blk_below (bX BKz2.out) hb); replace HB := Aside0.mk (below_step (hX HB.out) hb); clear hb hbox hg; have hnbz1 := NBz1.out; have hncz1 := NBz2.out; have hnbz2 := NBz3.out; have hncz2 := NBz4.out; obtain ⟨hczz1, hczz2, hfzz1, hfzz2⟩ := cZ2 BKz1.out) | (refine goesM 97 6 Tryz.func97 #[.slice A0_0 l0_0.length c0_0] ?_; refine (laws_toWordS.calls k _ _ l0_0 t104 _ (cC HR0_0.out HB.out) HC0_0.out A2.out).mono ?_; rintro e wz4 ⟨vz1, rfl, hoz1, hb⟩; refine ⟨_, rfl, ?_⟩; have HOz1 := Aside0.mk (Kd.R_lower hoz1 (below_size (hX HB.out))); replace BKz1 := Aside0.mk (blk_below (bX BKz1.out) hb); replace BKz2 := Aside0.mk (blk_below (bX BKz2.out) hb); replace BKz3 := Aside0.mk (blk_below (bX BKz3.out) hb); replace HB := Aside0.mk (below_step (hX HB.out) hb); clear hb hoz1; obtain ⟨Aoz1, coz1, eoz1⟩ := Kd.R_slice HOz1.out; subst eoz1; have hnbz3 := NBz6.out; have hncz3 := NBz5.out; obtain ⟨hczz3, hczz4, hfzz3, hfzz4⟩ := cZ2 BKz3.out; obtain ⟨hczz5, hczz6, hfzz5, hfzz6⟩ := cZ2 BKz1.out) | (refine goesM 98 10 Tryz.func98 #[.slice A0_1 l0_1.length c0_1] ?_; refine (laws_toDescS.calls k _ _ l0_1 t107 _ (by exact Kd.C_below HR0_1.out (hX HB.out)) HC0_1.out A3.out).mono ?_; rintro e wz5 ⟨vz2, rfl, hoz1, hb⟩; refine ⟨_, rfl, ?_⟩; have HOz2 := Aside0.mk (Kd.S_lower hoz1 (below_size (hX HB.out))); replace HOz1 := Aside0.mk (Kd.R_below (rT (h := by exact (Kd.R_mono (Kd.R_far (p := ⟨gbz3, 0, none⟩) (Kd.R_types HOz1.out BKz3.out (by decide)) (fun _ hk => hk.2) (.slice Aoz1 t104.length coz1)) (fun _ h_ => h_.1)))) hb); replace BKz1 := Aside0.mk (blk_below (bF BKz1.out) hb); replace BKz2 := Aside0.mk (blk_below (bF BKz2.out) hb); replace BKz3 := Aside0.mk (blk_below (g := gbz3) (o := .cells #[.slice Aoz1 t104.length coz1, .slice none 0 0] 38 (0, 0)) (bP BKz3.out) hb); replace HB := Aside0.mk (below_step (hX HB.out) hb); clear hb hoz1; obtain ⟨Aoz2, coz2, eoz2⟩ := Kd.S_slice HOz2.out; subst eoz2; obtain ⟨hczz7, hczz8, hfzz7, hfzz8⟩ := cZ2 BKz3.out; obtain ⟨hczz9, hczz10, hfzz9, hfzz10⟩ := cZ2 BKz2.out))
  refine bodyPost_ret (results_cell_row rfl _ _ gbz2 38 #[.slice Aoz1 t104.length coz1, .slice Aoz2 t107.length coz2] (0, 0) _ rfl (bP BKz2.out) Tryz.underlying38 rfl (by kernel_rfl)) rfl ?_
  exact ⟨_, _, rE, (rT (h := by exact Kd.R_mono (Kd.R_far (p := ⟨gbz2, 1, none⟩) (Kd.R_far (p := ⟨gbz2, 0, none⟩) (Kd.R_far (p := ⟨gbz3, 1, none⟩) (Kd.R_types (Kd.R_types HOz1.out BKz3.out (by decide)) BKz2.out (by decide)) (fun _ hk => hk.1.2) (.slice Aoz2 t107.length coz2)) (fun _ hk => hk.2) (.slice Aoz1 t104.length coz1)) (fun _ hk => hk.2) (.slice Aoz2 t107.length coz2)) (fun _ hk => trivial))), by (with_reducible repeat (first | apply Kd.S_alloc | apply Kd.S_drewN | apply Kd.S_drew)); exact Kd.S_mono (Kd.S_far (p := ⟨gbz2, 1, none⟩) (Kd.S_far (p := ⟨gbz2, 0, none⟩) (Kd.S_far (p := ⟨gbz3, 1, none⟩) (Kd.S_types (Kd.S_types HOz2.out BKz3.out (by decide)) BKz2.out (by decide)) (fun _ hk => hk.1.2) (.slice Aoz2 t107.length coz2)) (fun _ hk => hk.2) (.slice Aoz1 t104.length coz1)) (fun _ hk => hk.2) (.slice Aoz2 t107.length coz2)) (fun _ hk => trivial), (hX HB.out)⟩
end Go.Proofs.YtmljebgideecjaaGreat.P
namespace Go.Proofs.YtmljebgideecjaaGreat.P
open Go.Proofs.YtmljebgideecjaaGreatZ Go.RowKit Go.Proofs.YtmljebgideecjaaGreatW.PrintWords Go.Proofs.YtmljebgideecjaaGreatW.PrintLast Go.Proofs.YtmljebgideecjaaGreatW.PrintMore
attribute [local go_sem] max2_int min2_int max_two min_two max_three min_three max_four min_four   -- for this text's walks alone
set_option linter.unusedVariables false
set_option linter.unusedSimpArgs false
def laws_toPair.f (a0_0 : Int) (a0_1 : Int) : Option (Int × Int) := some (a0_0, a0_1)
set_option maxHeartbeats 8000000 in
set_option maxRecDepth 100000 in
theorem laws_toPair.calls (a0_0 : Int) (a0_1 : Int) (r1 : Int) (r2 : Int) (w : World) (h : laws_toPair.f a0_0 a0_1 = some (r1, r2)) :
    Calls Tryz.prog 206 #[.agg #[.int .i64 a0_0, .int .i64 a0_1]] w fun e w' => e = .returned (.agg #[.int .i64 r1, .int .i64 r2]) ∧ Below w.heap.size w w' := by
  have hu204 := Tryz.underlying204
  have hu172 := Tryz.underlying172
  have HB := Aside0.mk (Below.refl w.heap.size w)
  have H := h
  unfold laws_toPair.f at H
  clear h
  simp only [Option.some.injEq, Prod.mk.injEq] at H
  obtain ⟨rfl, rfl⟩ := H
  go_enter Tryz.func206, Tryz.ntmps206
  go_wp2_with (first | (refine boxE 1 #[.int .i64 a0_0, .int .i64 a0_1] 204 ?_; intro gbz1 hg wz1 hbox hb; have BKz1 := Aside0.mk (hbox); have GWz1 := Aside0.mk (gX' hg (hX HB.out)); have GEz1 := Aside0.mk (gX' hg (hX HB.out)); replace HB := Aside0.mk (below_step (hX HB.out) hb); clear hb hbox hg) | (refine boxE 2 #[.int .i64 0, .int .i64 0] 172 ?_; intro gbz2 hg wz2 hbox hb; have BKz2 := Aside0.mk (hbox); have GWz2 := Aside0.mk (gX' hg (hX HB.out)); have GEz2 := Aside0.mk (gX' hg (hX HB.out)); have NBz1 := Aside0.mk (gL hg (bX BKz1.out)); have NBz2 := Aside0.mk (gG hg (bX BKz1.out)); replace BKz1 := Aside0.mk (blk_below (bX BKz1.out) hb); replace HB := Aside0.mk (below_step (hX HB.out) hb); clear hb hbox hg) | (refine boxE 3 #[.int .i64 0, .int .i64 0] 172 ?_; intro gbz3 hg wz3 hbox hb; have BKz3 := Aside0.mk (hbox); have GWz3 := Aside0.mk (gX' hg (hX HB.out)); have GEz3 := Aside0.mk (gX' hg (hX HB.out)); have NBz3 := Aside0.mk (gL hg (bX BKz1.out)); have NBz4 := Aside0.mk (gG hg (bX BKz1.out)); have NBz5 := Aside0.mk (gL hg (bX BKz2.out)); have NBz6 := Aside0.mk (gG hg (bX BKz2.out)); replace BKz1 := Aside0.mk (blk_below (bX BKz1.out) hb); replace BKz2 := Aside0.mk (blk_below (bX BKz2.out) hb); replace HB := Aside0.mk (below_step (hX HB.out) hb); clear hb hbox hg; have hnbz1 := NBz1.out; have hncz1 := NBz2.out; have hnbz2 := NBz3.out; have hncz2 := NBz4.out; obtain ⟨hczz1, hczz2, hfzz1, hfzz2⟩ := cZ2 BKz1.out; have hnbz3 := NBz6.out; have hncz3 := NBz5.out; obtain ⟨hczz3, hczz4, hfzz3, hfzz4⟩ := cZ2 BKz3.out; obtain ⟨hczz5, hczz6, hfzz5, hfzz6⟩ := cZ2 BKz2.out))
  refine bodyPost_ret (results_cell_row rfl _ _ gbz2 172 #[.int .i64 a0_0, .int .i64 a0_1] (0, 0) _ rfl (bP BKz2.out) Tryz.underlying172 rfl (by kernel_rfl)) rfl ?_
  exact ⟨rE, (hX HB.out)⟩
end Go.Proofs.YtmljebgideecjaaGreat.P
namespace Go.Proofs.YtmljebgideecjaaGreat.P
open Go.Proofs.YtmljebgideecjaaGreatZ Go.RowKit Go.Proofs.YtmljebgideecjaaGreatW.PrintWords Go.Proofs.YtmljebgideecjaaGreatW.PrintLast Go.Proofs.YtmljebgideecjaaGreatW.PrintMore
attribute [local go_sem] max2_int min2_int max_two min_two max_three min_three max_four min_four   -- for this text's walks alone
set_option linter.unusedVariables false
set_option linter.unusedSimpArgs false
def laws_toPairS.l0 : Nat → List (S204) → List (S172) → Int → Option ((List (S172)))
  | 0, _, _, _ => none
  | k + 1, x0, x3, x4 => if x4 < (x0.length : Int) then (if 0 ≤ x4 then ((laws_toPair.f ((rd_T204 x0 x4).f0) ((rd_T204 x0 x4).f1)).bind fun bt105 => (if x4 < (x3.length : Int) then (laws_toPairS.l0 k x0 (x3.set (x4 : Int).toNat (⟨bt105.1, bt105.2⟩ : S172)) (wrap64 (x4 + 1))) else (none))) else (none)) else (some x3)
def laws_toPairS.f (k : Nat) (l0 : List (S204)) : Option ((List (S172))) := if 0 ≤ (l0.length : Int) then (if ((l0.length : Int) : Int).toNat ≤ 17592186044416 then (laws_toPairS.l0 k l0 (List.replicate ((l0.length : Int) : Int).toNat z172) 0) else (none)) else (none)
set_option maxHeartbeats 8000000 in
set_option maxRecDepth 100000 in
theorem laws_toPairS.calls (k : Nat) (A0 : Option Addr) (c0 : Nat) (l0 : List (S204)) (r : List (S172)) (w : World) (hr0 : Kd.C k204 w A0 l0.length l0) (hc0 : l0.length ≤ c0) (h : laws_toPairS.f k l0 = some r) :
    Calls Tryz.prog 166 #[.slice A0 l0.length c0] w fun e w' => ∃ v0_ : Value, e = .returned (v0_) ∧ Kd.R k172 172 w' w.heap.size (fun _ => True) v0_ r ∧ Below w.heap.size w w' := by
  have hu204 := Tryz.underlying204
  have hu172 := Tryz.underlying172
  have HR0 := Aside0.mk hr0
  have HC0 := Aside0.mk hc0
  clear hr0 hc0
  have HB := Aside0.mk (Below.refl w.heap.size w)
  have H := h
  unfold laws_toPairS.f at H
  clear h
  replace H := ifP H; obtain ⟨c2, H⟩ := H
  have c2b0 := eq_true c2
  have c2b1 := decide_eq_true c2
  clear c2
  replace H := ifP H; obtain ⟨c3, H⟩ := H
  have c3b0 := eq_true c3
  have c3b1 := decide_eq_true c3
  clear c3
  obtain ⟨y101, hy101⟩ : ∃ y_ : List (S172), y_ = (List.replicate ((l0.length : Int) : Int).toNat z172) := ⟨_, rfl⟩
  replace H : (laws_toPairS.l0 k l0 y101 0) = some r := yH H hy101
  have Ny101 := Aside0.mk hy101
  clear hy101
  have H' := Aside0.mk H
  clear H
  go_enter Tryz.func166, Tryz.ntmps166
  go_wp2_with (first | ((with_reducible refine gate_dst (N := 7) rfl ?_); refine Kd.R_make k172 _ 172 rfl (N := 7) rfl 94 _ _ rfl (l0.length : Int) rfl rfl Tryz.underlying94 (.agg #[(.int .i64 0), (.int .i64 0)]) 16 info172 rfl (by decide) (by omega) z172 (ok := fun _ => True) (okp := fun _ => True) (k172_mkM _ _ _ z172 ) (fun _ hk => hk) trivial (of_decide_eq_true (by first | (with_reducible assumption) | assumption)) (Nat.le_trans (Nat.mul_le_mul_right _ (of_decide_eq_true (by first | (with_reducible assumption) | assumption) : (l0.length : Int).toNat ≤ 17592186044416)) (by omega)) (Below.refl _ _) (Nat.le_refl _) ?_; intro vz1 wz1 hoz1 hb hg_ hnew_; clear hg_ hnew_; (first | rw [← Ny101.out] at hoz1 | (simp only [Int.reduceToNat] at hoz1; rw [← Ny101.out] at hoz1)); have HOz1 := Aside0.mk (Kd.R_lower hoz1 (below_size (hX HB.out))); replace HB := Aside0.mk (below_step (hX HB.out) hb); clear hb hoz1))
  go_loopg [4] k (fun kq v4 w' => ∃ (x3_1 : List (S172)) (x4_1 : Int), v4 = .int .i64 x4_1 ∧ Aside0 (laws_toPairS.l0 kq l0 x3_1 x4_1 = some r) ∧ Aside0 (kq ≤ k) ∧ Aside0 (Kd.R k172 172 w' w.heap.size (fun _ => True) vz1 x3_1) ∧ Aside0 (Below w.heap.size w w'))
  case atStart => exact ⟨(y101), (0), rS, H', ⟨Nat.le_refl _⟩, ⟨(rX HOz1.out)⟩, ⟨(hX HB.out)⟩⟩
  case round =>
    clear H'
    try clear c1
    try clear c2
    try clear c2b0
    try clear c2b1
    try clear p2
    try clear c3
    try clear c3b0
    try clear c3b1
    obtain ⟨x3_1, x4_1, rfl, HA, HKy1, HO_y1, HB⟩ := hrel
    cases gk with
    | zero => exact absurd HA.out (by simp [laws_toPairS.l0])
    | succ k1 =>
      have H := HA.out
      clear HA
      simp only [laws_toPairS.l0] at H
      by_cases c6 : x4_1 < (l0.length : Int)
      · rw [if_pos c6] at H
        have c6b0 := decide_eq_true c6
        clear c6
        replace H := ifP H; obtain ⟨c7, H⟩ := H
        have c7b0 := decide_eq_true c7
        clear c7
        replace H := bE H; obtain ⟨⟨t105, t106⟩, A8, H⟩ := H
        try dsimp only at H
        replace H := ifP H; obtain ⟨c9, H⟩ := H
        have c9b0 := decide_eq_true c9
        clear c9
        obtain ⟨y107, hy107⟩ : ∃ y_ : List (S172), y_ = (x3_1.set (x4_1 : Int).toNat (⟨t105, t106⟩ : S172)) := ⟨_, rfl⟩
        replace H : (laws_toPairS.l0 k1 l0 y107 (wrap64 (x4_1 + 1))) = some r := yH H hy107
        have Ny107 := Aside0.mk hy107
        clear hy107
        have H' := Aside0.mk H
        clear H
        have px1 : 0 ≤ (x4_1 : Int) := of_decide_eq_true (by first | (with_reducible assumption) | assumption)
        have qx1 : x4_1 < (l0.length : Int) := of_decide_eq_true (by first | (with_reducible assumption) | assumption)
        obtain ⟨adx1, ex1, hxx1, hxx2⟩ := at_T204 HR0.out x4_1 px1 qx1
        cases ex1
        replace hxx1 := (HB.out.cell (World.block_lt_of_cell? w _ hxx1)).trans hxx1
        replace hxx2 := (HB.out.cell (World.block_lt_of_cell? w _ hxx2)).trans hxx2
        replace px1 := eq_true px1
        replace qx1 := eq_true qx1
        go_wp2_with (first | (refine goesM 206 20 Tryz.func206 #[.agg #[.int .i64 ((rd_T204 l0 x4_1).f0), .int .i64 ((rd_T204 l0 x4_1).f1)]] ?_; refine (laws_toPair.calls ((rd_T204 l0 x4_1).f0) ((rd_T204 l0 x4_1).f1) t105 t106 _ A8.out).mono ?_; rintro e wx1 ⟨rfl, hb⟩; refine ⟨_, rfl, ?_⟩; replace HO_y1 := Aside0.mk (Kd.R_below (rX HO_y1.out) hb); replace HB := Aside0.mk (below_step (hX HB.out) hb); clear hb; have px2 : 0 ≤ (x4_1 : Int) := of_decide_eq_true (by first | (with_reducible assumption) | assumption); have qx2 : (x4_1 : Int) < ((x3_1.length : Int) : Int) := of_decide_eq_true (by first | (with_reducible assumption) | assumption); obtain ⟨gox1, cox1, eox1, gbx1, glx1, clx1, HGx1⟩ := Kd.R_form HO_y1.out (by omega); (first | cases eox1 | (injection eox1 with ea_ en_ ec_; (first | subst ea_ | (injection ea_ with ea_; subst ea_)); subst ec_; clear en_)); have GBx1 := Aside0.mk gbx1; have GGx1 := Aside0.mk HGx1; clear gbx1 glx1 HGx1; obtain ⟨cex1, hclx1, hMx1, hccx1, hfrx1⟩ := Kd.R_elem HO_y1.out z172 (x4_1 : Int) px2 qx2; obtain rfl := k172_openM hMx1; have hxx3 : wx1.cell? ⟨gox1, (x4_1 : Int).toNat * 2, none⟩ = some (.int .i64 ((rd_T172 x3_1 x4_1).f0)) := hccx1 0 _ rfl; have hxx4 : wx1.cell? ⟨gox1, (x4_1 : Int).toNat * 2 + 1, none⟩ = some (.int .i64 ((rd_T172 x3_1 x4_1).f1)) := hccx1 1 _ rfl; have hfx1 : wx1.frozen? ⟨gox1, (x4_1 : Int).toNat * 2, none⟩ = false := hfrx1 0; have hfx2 : wx1.frozen? ⟨gox1, (x4_1 : Int).toNat * 2 + 1, none⟩ = false := hfrx1 1; clear hclx1 hccx1 hfrx1 hMx1; replace px2 := eq_true px2; replace qx2 := eq_true qx2; have HXx1 := Aside0.mk (show Kd.R k172 172 wx1 w.heap.size (fun _ => True) (.slice (some ⟨gox1, 0, none⟩) x3_1.length cox1) x3_1 from (rX HO_y1.out)); obtain ⟨cex2, hclx2, hMx2, hccx2, hfrx2⟩ := Kd.R_elem HXx1.out z172 (x4_1 : Int) (of_decide_eq_true (by first | (with_reducible assumption) | assumption)) (by have h_ : (x4_1 : Int) < ((x3_1.length : Int) : Int) := of_decide_eq_true (by first | (with_reducible assumption) | assumption); first | exact h_ | (have e_ := (Kd.R_reads' HO_y1.out).1; omega) | simpa using h_); obtain rfl := k172_openM hMx2; have HPx1 := Kd.R_seg HXx1.out (x4_1 : Int) (of_decide_eq_true (by first | (with_reducible assumption) | assumption)) (by have h_ : (x4_1 : Int) < ((x3_1.length : Int) : Int) := of_decide_eq_true (by first | (with_reducible assumption) | assumption); first | exact h_ | (have e_ := (Kd.R_reads' HO_y1.out).1; omega) | simpa using h_) (seg := [.int .i64 t105, .int .i64 t106]) (j := 0) hclx2 hccx2 (show 2 ≤ 2 from by decide) (x' := (⟨t105, t106⟩ : S172)) (k172_mkM _ _ _ (⟨t105, t106⟩ : S172) ) (fun _ hk => hk); have hxx5 := hccx2 0 _ rfl; (try simp only [show (k172).sz = 2 from rfl, Nat.mul_one, Nat.add_zero] at hxx5); have hfx3 := hfrx2 0; (try simp only [show (k172).sz = 2 from rfl, Nat.mul_one, Nat.add_zero] at hfx3); have hxx6 := hccx2 1 _ rfl; (try simp only [show (k172).sz = 2 from rfl, Nat.mul_one, Nat.add_zero] at hxx6); have hfx4 := hfrx2 1; (try simp only [show (k172).sz = 2 from rfl, Nat.mul_one, Nat.add_zero] at hfx4); clear hclx2 hccx2 hfrx2 hMx2) | ((with_reducible refine gate_store (t := 172) (p := 21) rfl ?_); refine store_event (t := 172) (p := 21) (v := ?vo_wx2) (w1 := ((wx1.setCell ⟨gox1, (x4_1 : Int).toNat * 2, none⟩ (.int .i64 t105)).setCell ⟨gox1, (x4_1 : Int).toNat * 2 + 1, none⟩ (.int .i64 t106))) ?hg ?ho ?hn ?hr ?_; (case ho => rfl); (case hg => rfl); (case hn => rfl); (case hr => first | (go_simp; done) | (go_simp; rfl)); intro wx2 hw; have hg : wx1.grownBy wx2 (some gox1) := (by rw [hw]; exact HPx1.2); have hp_ : Kd.R k172 172 wx2 w.heap.size (fun _ => True) (.slice (some ⟨gox1, 0, none⟩) x3_1.length cox1) y107 := (by rw [hw, Ny107.out]; exact HPx1.1); clear HPx1; replace HO_y1 := Aside0.mk (hp_); replace HB := Aside0.mk ((by rw [hw]; exact below_set (below_set (HB.out) GBx1.out) GBx1.out : Below w.heap.size w wx2)); clear hg hw hp_))
        go_roundg k1
        case measure => have := HKy1.out; omega
        case rel => exact ⟨(y107), (wrap64 (x4_1 + 1)), rS, H', ⟨by have := HKy1.out; omega⟩, ⟨(rX HO_y1.out)⟩, ⟨(hX HB.out)⟩⟩
      · rw [if_neg c6] at H
        have c6b0 := decide_eq_false c6
        clear c6
        obtain rfl := Option.some.inj H
        go_wp2
        go_ret
        exact ⟨_, rE, (rX HO_y1.out), (hX HB.out)⟩
end Go.Proofs.YtmljebgideecjaaGreat.P
namespace Go.Proofs.YtmljebgideecjaaGreat.P
open Go.Proofs.YtmljebgideecjaaGreatZ Go.RowKit Go.Proofs.YtmljebgideecjaaGreatW.PrintWords Go.Proofs.YtmljebgideecjaaGreatW.PrintLast Go.Proofs.YtmljebgideecjaaGreatW.PrintMore
attribute [local go_sem] max2_int min2_int max_two min_two max_three min_three max_four min_four   -- for this text's walks alone
set_option linter.unusedVariables false
set_option linter.unusedSimpArgs false
def laws_toHelp.f (a0_0 : Int) (a0_1 : Int) (a0_2 : Int) (a0_3 : Int) : Option (Int × Int × Int × Int) := some (a0_0, a0_1, a0_2, a0_3)
set_option maxHeartbeats 8000000 in
set_option maxRecDepth 100000 in
theorem laws_toHelp.calls (a0_0 : Int) (a0_1 : Int) (a0_2 : Int) (a0_3 : Int) (r1 : Int) (r2 : Int) (r3 : Int) (r4 : Int) (w : World) (h : laws_toHelp.f a0_0 a0_1 a0_2 a0_3 = some (r1, r2, r3, r4)) :
    Calls Tryz.prog 207 #[.agg #[.int .i64 a0_0, .int .i64 a0_1, .int .i64 a0_2, .int .i64 a0_3]] w fun e w' => e = .returned (.agg #[.int .i64 r1, .int .i64 r2, .int .i64 r3, .int .i64 r4]) ∧ Below w.heap.size w w' := by
  have hu206 := Tryz.underlying206
  have hu174 := Tryz.underlying174
  have HB := Aside0.mk (Below.refl w.heap.size w)
  have H := h
  unfold laws_toHelp.f at H
  clear h
  simp only [Option.some.injEq, Prod.mk.injEq] at H
  obtain ⟨rfl, rfl, rfl, rfl⟩ := H
  go_enter Tryz.func207, Tryz.ntmps207
  go_wp2_with (first | (refine boxE 1 #[.int .i64 a0_0, .int .i64 a0_1, .int .i64 a0_2, .int .i64 a0_3] 206 ?_; intro gbz1 hg wz1 hbox hb; have BKz1 := Aside0.mk (hbox); have GWz1 := Aside0.mk (gX' hg (hX HB.out)); have GEz1 := Aside0.mk (gX' hg (hX HB.out)); replace HB := Aside0.mk (below_step (hX HB.out) hb); clear hb hbox hg) | (refine boxE 2 #[.int .i64 0, .int .i64 0, .int .i64 0, .int .i64 0] 174 ?_; intro gbz2 hg wz2 hbox hb; have BKz2 := Aside0.mk (hbox); have GWz2 := Aside0.mk (gX' hg (hX HB.out)); have GEz2 := Aside0.mk (gX' hg (hX HB.out)); have NBz1 := Aside0.mk (gL hg (bX BKz1.out)); have NBz2 := Aside0.mk (gG hg (bX BKz1.out)); replace BKz1 := Aside0.mk (blk_below (bX BKz1.out) hb); replace HB := Aside0.mk (below_step (hX HB.out) hb); clear hb hbox hg) | (refine boxE 3 #[.int .i64 0, .int .i64 0, .int .i64 0, .int .i64 0] 174 ?_; intro gbz3 hg wz3 hbox hb; have BKz3 := Aside0.mk (hbox); have GWz3 := Aside0.mk (gX' hg (hX HB.out)); have GEz3 := Aside0.mk (gX' hg (hX HB.out)); have NBz3 := Aside0.mk (gL hg (bX BKz1.out)); have NBz4 := Aside0.mk (gG hg (bX BKz1.out)); have NBz5 := Aside0.mk (gL hg (bX BKz2.out)); have NBz6 := Aside0.mk (gG hg (bX BKz2.out)); replace BKz1 := Aside0.mk (blk_below (bX BKz1.out) hb); replace BKz2 := Aside0.mk (blk_below (bX BKz2.out) hb); replace HB := Aside0.mk (below_step (hX HB.out) hb); clear hb hbox hg; have hnbz1 := NBz1.out; have hncz1 := NBz2.out; have hnbz2 := NBz3.out; have hncz2 := NBz4.out; obtain ⟨hczz1, hczz2, hczz3, hczz4, hfzz1, hfzz2, hfzz3, hfzz4⟩ := cZ4 BKz1.out; have hnbz3 := NBz6.out; have hncz3 := NBz5.out; obtain ⟨hczz5, hczz6, hczz7, hczz8, hfzz5, hfzz6, hfzz7, hfzz8⟩ := cZ4 BKz3.out; obtain ⟨hczz9, hczz10, hczz11, hczz12, hfzz9, hfzz10, hfzz11, hfzz12⟩ := cZ4 BKz2.out))
  refine bodyPost_ret (results_cell_row rfl _ _ gbz2 174 #[.int .i64 a0_0, .int .i64 a0_1, .int .i64 a0_2, .int .i64 a0_3] (0, 0) _ rfl (bP BKz2.out) Tryz.underlying174 rfl (by kernel_rfl)) rfl ?_
  exact ⟨rE, (hX HB.out)⟩
end Go.Proofs.YtmljebgideecjaaGreat.P
namespace Go.Proofs.YtmljebgideecjaaGreat.P
open Go.Proofs.YtmljebgideecjaaGreatZ Go.RowKit Go.Proofs.YtmljebgideecjaaGreatW.PrintWords Go.Proofs.YtmljebgideecjaaGreatW.PrintLast Go.Proofs.YtmljebgideecjaaGreatW.PrintMore
attribute [local go_sem] max2_int min2_int max_two min_two max_three min_three max_four min_four   -- for this text's walks alone
set_option linter.unusedVariables false
set_option linter.unusedSimpArgs false
def laws_toHelpS.l0 : Nat → List (S206) → List (S174) → Int → Option ((List (S174)))
  | 0, _, _, _ => none
  | k + 1, x0, x3, x4 => if x4 < (x0.length : Int) then (if 0 ≤ x4 then ((laws_toHelp.f ((rd_T206 x0 x4).f0) ((rd_T206 x0 x4).f1) ((rd_T206 x0 x4).f2) ((rd_T206 x0 x4).f3)).bind fun bt105 => (if x4 < (x3.length : Int) then (laws_toHelpS.l0 k x0 (x3.set (x4 : Int).toNat (⟨bt105.1, bt105.2.1, bt105.2.2.1, bt105.2.2.2⟩ : S174)) (wrap64 (x4 + 1))) else (none))) else (none)) else (some x3)
def laws_toHelpS.f (k : Nat) (l0 : List (S206)) : Option ((List (S174))) := if 0 ≤ (l0.length : Int) then (if ((l0.length : Int) : Int).toNat ≤ 8796093022208 then (laws_toHelpS.l0 k l0 (List.replicate ((l0.length : Int) : Int).toNat z174) 0) else (none)) else (none)
set_option maxHeartbeats 8000000 in
set_option maxRecDepth 100000 in
theorem laws_toHelpS.calls (k : Nat) (A0 : Option Addr) (c0 : Nat) (l0 : List (S206)) (r : List (S174)) (w : World) (hr0 : Kd.C k206 w A0 l0.length l0) (hc0 : l0.length ≤ c0) (h : laws_toHelpS.f k l0 = some r) :
    Calls Tryz.prog 167 #[.slice A0 l0.length c0] w fun e w' => ∃ v0_ : Value, e = .returned (v0_) ∧ Kd.R k174 174 w' w.heap.size (fun _ => True) v0_ r ∧ Below w.heap.size w w' := by
  have hu206 := Tryz.underlying206
  have hu174 := Tryz.underlying174
  have HR0 := Aside0.mk hr0
  have HC0 := Aside0.mk hc0
  clear hr0 hc0
  have HB := Aside0.mk (Below.refl w.heap.size w)
  have H := h
  unfold laws_toHelpS.f at H
  clear h
  replace H := ifP H; obtain ⟨c2, H⟩ := H
  have c2b0 := eq_true c2
  have c2b1 := decide_eq_true c2
  clear c2
  replace H := ifP H; obtain ⟨c3, H⟩ := H
  have c3b0 := eq_true c3
  have c3b1 := decide_eq_true c3
  clear c3
  obtain ⟨y101, hy101⟩ : ∃ y_ : List (S174), y_ = (List.replicate ((l0.length : Int) : Int).toNat z174) := ⟨_, rfl⟩
  replace H : (laws_toHelpS.l0 k l0 y101 0) = some r := yH H hy101
  have Ny101 := Aside0.mk hy101
  clear hy101
  have H' := Aside0.mk H
  clear H
  go_enter Tryz.func167, Tryz.ntmps167
  go_wp2_with (first | ((with_reducible refine gate_dst (N := 7) rfl ?_); refine Kd.R_make k174 _ 174 rfl (N := 7) rfl 95 _ _ rfl (l0.length : Int) rfl rfl Tryz.underlying95 (.agg #[(.int .i64 0), (.int .i64 0), (.int .i64 0), (.int .i64 0)]) 32 info174 rfl (by decide) (by omega) z174 (ok := fun _ => True) (okp := fun _ => True) (k174_mkM _ _ _ z174 ) (fun _ hk => hk) trivial (of_decide_eq_true (by first | (with_reducible assumption) | assumption)) (Nat.le_trans (Nat.mul_le_mul_right _ (of_decide_eq_true (by first | (with_reducible assumption) | assumption) : (l0.length : Int).toNat ≤ 8796093022208)) (by omega)) (Below.refl _ _) (Nat.le_refl _) ?_; intro vz1 wz1 hoz1 hb hg_ hnew_; clear hg_ hnew_; (first | rw [← Ny101.out] at hoz1 | (simp only [Int.reduceToNat] at hoz1; rw [← Ny101.out] at hoz1)); have HOz1 := Aside0.mk (Kd.R_lower hoz1 (below_size (hX HB.out))); replace HB := Aside0.mk (below_step (hX HB.out) hb); clear hb hoz1))
  go_loopg [4] k (fun kq v4 w' => ∃ (x3_1 : List (S174)) (x4_1 : Int), v4 = .int .i64 x4_1 ∧ Aside0 (laws_toHelpS.l0 kq l0 x3_1 x4_1 = some r) ∧ Aside0 (kq ≤ k) ∧ Aside0 (Kd.R k174 174 w' w.heap.size (fun _ => True) vz1 x3_1) ∧ Aside0 (Below w.heap.size w w'))
  case atStart => exact ⟨(y101), (0), rS, H', ⟨Nat.le_refl _⟩, ⟨(rX HOz1.out)⟩, ⟨(hX HB.out)⟩⟩
  case round =>
    clear H'
    try clear c1
    try clear c2
    try clear c2b0
    try clear c2b1
    try clear p2
    try clear c3
    try clear c3b0
    try clear c3b1
    obtain ⟨x3_1, x4_1, rfl, HA, HKy1, HO_y1, HB⟩ := hrel
    cases gk with
    | zero => exact absurd HA.out (by simp [laws_toHelpS.l0])
    | succ k1 =>
      have H := HA.out
      clear HA
      simp only [laws_toHelpS.l0] at H
      by_cases c6 : x4_1 < (l0.length : Int)
      · rw [if_pos c6] at H
        have c6b0 := decide_eq_true c6
        clear c6
        replace H := ifP H; obtain ⟨c7, H⟩ := H
        have c7b0 := decide_eq_true c7
        clear c7
        replace H := bE H; obtain ⟨⟨t105, t106, t107, t108⟩, A8, H⟩ := H
        try dsimp only at H
        replace H := ifP H; obtain ⟨c9, H⟩ := H
        have c9b0 := decide_eq_true c9
        clear c9
        obtain ⟨y109, hy109⟩ : ∃ y_ : List (S174), y_ = (x3_1.set (x4_1 : Int).toNat (⟨t105, t106, t107, t108⟩ : S174)) := ⟨_, rfl⟩
        replace H : (laws_toHelpS.l0 k1 l0 y109 (wrap64 (x4_1 + 1))) = some r := yH H hy109
        have Ny109 := Aside0.mk hy109
        clear hy109
        have H' := Aside0.mk H
        clear H
        have px1 : 0 ≤ (x4_1 : Int) := of_decide_eq_true (by first | (with_reducible assumption) | assumption)
        have qx1 : x4_1 < (l0.length : Int) := of_decide_eq_true (by first | (with_reducible assumption) | assumption)
        obtain ⟨adx1, ex1, hxx1, hxx2, hxx3, hxx4⟩ := at_T206 HR0.out x4_1 px1 qx1
        cases ex1
        replace hxx1 := (HB.out.cell (World.block_lt_of_cell? w _ hxx1)).trans hxx1
        replace hxx2 := (HB.out.cell (World.block_lt_of_cell? w _ hxx2)).trans hxx2
        replace hxx3 := (HB.out.cell (World.block_lt_of_cell? w _ hxx3)).trans hxx3
        replace hxx4 := (HB.out.cell (World.block_lt_of_cell? w _ hxx4)).trans hxx4
        replace px1 := eq_true px1
        replace qx1 := eq_true qx1
        go_wp2_with (first | (refine goesM 207 20 Tryz.func207 #[.agg #[.int .i64 ((rd_T206 l0 x4_1).f0), .int .i64 ((rd_T206 l0 x4_1).f1), .int .i64 ((rd_T206 l0 x4_1).f2), .int .i64 ((rd_T206 l0 x4_1).f3)]] ?_; refine (laws_toHelp.calls ((rd_T206 l0 x4_1).f0) ((rd_T206 l0 x4_1).f1) ((rd_T206 l0 x4_1).f2) ((rd_T206 l0 x4_1).f3) t105 t106 t107 t108 _ A8.out).mono ?_; rintro e wx1 ⟨rfl, hb⟩; refine ⟨_, rfl, ?_⟩; replace HO_y1 := Aside0.mk (Kd.R_below (rX HO_y1.out) hb); replace HB := Aside0.mk (below_step (hX HB.out) hb); clear hb; have px2 : 0 ≤ (x4_1 : Int) := of_decide_eq_true (by first | (with_reducible assumption) | assumption); have qx2 : (x4_1 : Int) < ((x3_1.length : Int) : Int) := of_decide_eq_true (by first | (with_reducible assumption) | assumption); obtain ⟨gox1, cox1, eox1, gbx1, glx1, clx1, HGx1⟩ := Kd.R_form HO_y1.out (by omega); (first | cases eox1 | (injection eox1 with ea_ en_ ec_; (first | subst ea_ | (injection ea_ with ea_; subst ea_)); subst ec_; clear en_)); have GBx1 := Aside0.mk gbx1; have GGx1 := Aside0.mk HGx1; clear gbx1 glx1 HGx1; obtain ⟨cex1, hclx1, hMx1, hccx1, hfrx1⟩ := Kd.R_elem HO_y1.out z174 (x4_1 : Int) px2 qx2; obtain rfl := k174_openM hMx1; have hxx5 : wx1.cell? ⟨gox1, (x4_1 : Int).toNat * 4, none⟩ = some (.int .i64 ((rd_T174 x3_1 x4_1).f0)) := hccx1 0 _ rfl; have hxx6 : wx1.cell? ⟨gox1, (x4_1 : Int).toNat * 4 + 1, none⟩ = some (.int .i64 ((rd_T174 x3_1 x4_1).f1)) := hccx1 1 _ rfl; have hxx7 : wx1.cell? ⟨gox1, (x4_1 : Int).toNat * 4 + 2, none⟩ = some (.int .i64 ((rd_T174 x3_1 x4_1).f2)) := hccx1 2 _ rfl; have hxx8 : wx1.cell? ⟨gox1, (x4_1 : Int).toNat * 4 + 3, none⟩ = some (.int .i64 ((rd_T174 x3_1 x4_1).f3)) := hccx1 3 _ rfl; have hfx1 : wx1.frozen? ⟨gox1, (x4_1 : Int).toNat * 4, none⟩ = false := hfrx1 0; have hfx2 : wx1.frozen? ⟨gox1, (x4_1 : Int).toNat * 4 + 1, none⟩ = false := hfrx1 1; have hfx3 : wx1.frozen? ⟨gox1, (x4_1 : Int).toNat * 4 + 2, none⟩ = false := hfrx1 2; have hfx4 : wx1.frozen? ⟨gox1, (x4_1 : Int).toNat * 4 + 3, none⟩ = false := hfrx1 3; clear hclx1 hccx1 hfrx1 hMx1; replace px2 := eq_true px2; replace qx2 := eq_true qx2; have HXx1 := Aside0.mk (show Kd.R k174 174 wx1 w.heap.size (fun _ => True) (.slice (some ⟨gox1, 0, none⟩) x3_1.length cox1) x3_1 from (rX HO_y1.out)); obtain ⟨cex2, hclx2, hMx2, hccx2, hfrx2⟩ := Kd.R_elem HXx1.out z174 (x4_1 : Int) (of_decide_eq_true (by first | (with_reducible assumption) | assumption)) (by have h_ : (x4_1 : Int) < ((x3_1.length : Int) : Int) := of_decide_eq_true (by first | (with_reducible assumption) | assumption); first | exact h_ | (have e_ := (Kd.R_reads' HO_y1.out).1; omega) | simpa using h_); obtain rfl := k174_openM hMx2; have HPx1 := Kd.R_seg HXx1.out (x4_1 : Int) (of_decide_eq_true (by first | (with_reducible assumption) | assumption)) (by have h_ : (x4_1 : Int) < ((x3_1.length : Int) : Int) := of_decide_eq_true (by first | (with_reducible assumption) | assumption); first | exact h_ | (have e_ := (Kd.R_reads' HO_y1.out).1; omega) | simpa using h_) (seg := [.int .i64 t105, .int .i64 t106, .int .i64 t107, .int .i64 t108]) (j := 0) hclx2 hccx2 (show 4 ≤ 4 from by decide) (x' := (⟨t105, t106, t107, t108⟩ : S174)) (k174_mkM _ _ _ (⟨t105, t106, t107, t108⟩ : S174) ) (fun _ hk => hk); have hxx9 := hccx2 0 _ rfl; (try simp only [show (k174).sz = 4 from rfl, Nat.mul_one, Nat.add_zero] at hxx9); have hfx5 := hfrx2 0; (try simp only [show (k174).sz = 4 from rfl, Nat.mul_one, Nat.add_zero] at hfx5); have hxx10 := hccx2 1 _ rfl; (try simp only [show (k174).sz = 4 from rfl, Nat.mul_one, Nat.add_zero] at hxx10); have hfx6 := hfrx2 1; (try simp only [show (k174).sz = 4 from rfl, Nat.mul_one, Nat.add_zero] at hfx6); have hxx11 := hccx2 2 _ rfl; (try simp only [show (k174).sz = 4 from rfl, Nat.mul_one, Nat.add_zero] at hxx11); have hfx7 := hfrx2 2; (try simp only [show (k174).sz = 4 from rfl, Nat.mul_one, Nat.add_zero] at hfx7); have hxx12 := hccx2 3 _ rfl; (try simp only [show (k174).sz = 4 from rfl, Nat.mul_one, Nat.add_zero] at hxx12); have hfx8 := hfrx2 3; (try simp only [show (k174).sz = 4 from rfl, Nat.mul_one, Nat.add_zero] at hfx8); clear hclx2 hccx2 hfrx2 hMx2) | ((with_reducible refine gate_store (t := 174) (p := 21) rfl ?_); refine store_event (t := 174) (p := 21) (v := ?vo_wx2) (w1 := ((((wx1.setCell ⟨gox1, (x4_1 : Int).toNat * 4, none⟩ (.int .i64 t105)).setCell ⟨gox1, (x4_1 : Int).toNat * 4 + 1, none⟩ (.int .i64 t106)).setCell ⟨gox1, (x4_1 : Int).toNat * 4 + 2, none⟩ (.int .i64 t107)).setCell ⟨gox1, (x4_1 : Int).toNat * 4 + 3, none⟩ (.int .i64 t108))) ?hg ?ho ?hn ?hr ?_; (case ho => rfl); (case hg => rfl); (case hn => rfl); (case hr => first | (go_simp; done) | (go_simp; rfl)); intro wx2 hw; have hg : wx1.grownBy wx2 (some gox1) := (by rw [hw]; exact HPx1.2); have hp_ : Kd.R k174 174 wx2 w.heap.size (fun _ => True) (.slice (some ⟨gox1, 0, none⟩) x3_1.length cox1) y109 := (by rw [hw, Ny109.out]; exact HPx1.1); clear HPx1; replace HO_y1 := Aside0.mk (hp_); replace HB := Aside0.mk ((by rw [hw]; exact below_set (below_set (below_set (below_set (HB.out) GBx1.out) GBx1.out) GBx1.out) GBx1.out : Below w.heap.size w wx2)); clear hg hw hp_))
        go_roundg k1
        case measure => have := HKy1.out; omega
        case rel => exact ⟨(y109), (wrap64 (x4_1 + 1)), rS, H', ⟨by have := HKy1.out; omega⟩, ⟨(rX HO_y1.out)⟩, ⟨(hX HB.out)⟩⟩
      · rw [if_neg c6] at H
        have c6b0 := decide_eq_false c6
        clear c6
        obtain rfl := Option.some.inj H
        go_wp2
        go_ret
        exact ⟨_, rE, (rX HO_y1.out), (hX HB.out)⟩
end Go.Proofs.YtmljebgideecjaaGreat.P
namespace Go.Proofs.YtmljebgideecjaaGreat.P
open Go.Proofs.YtmljebgideecjaaGreatZ Go.RowKit Go.Proofs.YtmljebgideecjaaGreatW.PrintWords Go.Proofs.YtmljebgideecjaaGreatW.PrintLast Go.Proofs.YtmljebgideecjaaGreatW.PrintMore
attribute [local go_sem] max2_int min2_int max_two min_two max_three min_three max_four min_four   -- for this text's walks alone
set_option linter.unusedVariables false
set_option linter.unusedSimpArgs false
def laws_toOp.f (a0_0 : Int) (a0_1 : Int) (a0_2 : Int) : Option (Int × Int × Int) := some (a0_0, a0_1, a0_2)
set_option maxHeartbeats 8000000 in
set_option maxRecDepth 100000 in
theorem laws_toOp.calls (a0_0 : Int) (a0_1 : Int) (a0_2 : Int) (r1 : Int) (r2 : Int) (r3 : Int) (w : World) (h : laws_toOp.f a0_0 a0_1 a0_2 = some (r1, r2, r3)) :
    Calls Tryz.prog 126 #[.agg #[.int .i64 a0_0, .int .i64 a0_1, .int .i64 a0_2]] w fun e w' => e = .returned (.agg #[.int .i64 r1, .int .i64 r2, .int .i64 r3]) ∧ Below w.heap.size w w' := by
  have hu116 := Tryz.underlying116
  have hu69 := Tryz.underlying69
  have HB := Aside0.mk (Below.refl w.heap.size w)
  have H := h
  unfold laws_toOp.f at H
  clear h
  simp only [Option.some.injEq, Prod.mk.injEq] at H
  obtain ⟨rfl, rfl, rfl⟩ := H
  go_enter Tryz.func126, Tryz.ntmps126
  go_wp2_with (first | (refine boxE 1 #[.int .i64 a0_0, .int .i64 a0_1, .int .i64 a0_2] 116 ?_; intro gbz1 hg wz1 hbox hb; have BKz1 := Aside0.mk (hbox); have GWz1 := Aside0.mk (gX' hg (hX HB.out)); have GEz1 := Aside0.mk (gX' hg (hX HB.out)); replace HB := Aside0.mk (below_step (hX HB.out) hb); clear hb hbox hg) | (refine boxE 2 #[.int .i64 0, .int .i64 0, .int .i64 0] 69 ?_; intro gbz2 hg wz2 hbox hb; have BKz2 := Aside0.mk (hbox); have GWz2 := Aside0.mk (gX' hg (hX HB.out)); have GEz2 := Aside0.mk (gX' hg (hX HB.out)); have NBz1 := Aside0.mk (gL hg (bX BKz1.out)); have NBz2 := Aside0.mk (gG hg (bX BKz1.out)); replace BKz1 := Aside0.mk (blk_below (bX BKz1.out) hb); replace HB := Aside0.mk (below_step (hX HB.out) hb); clear hb hbox hg) | (refine boxE 3 #[.int .i64 0, .int .i64 0, .int .i64 0] 69 ?_; intro gbz3 hg wz3 hbox hb; have BKz3 := Aside0.mk (hbox); have GWz3 := Aside0.mk (gX' hg (hX HB.out)); have GEz3 := Aside0.mk (gX' hg (hX HB.out)); have NBz3 := Aside0.mk (gL hg (bX BKz1.out)); have NBz4 := Aside0.mk (gG hg (bX BKz1.out)); have NBz5 := Aside0.mk (gL hg (bX BKz2.out)); have NBz6 := Aside0.mk (gG hg (bX BKz2.out)); replace BKz1 := Aside0.mk (blk_below (bX BKz1.out) hb); replace BKz2 := Aside0.mk (blk_below (bX BKz2.out) hb); replace HB := Aside0.mk (below_step (hX HB.out) hb); clear hb hbox hg; have hnbz1 := NBz1.out; have hncz1 := NBz2.out; have hnbz2 := NBz3.out; have hncz2 := NBz4.out; obtain ⟨hczz1, hczz2, hczz3, hfzz1, hfzz2, hfzz3⟩ := cZ3 BKz1.out; have hnbz3 := NBz6.out; have hncz3 := NBz5.out; obtain ⟨hczz4, hczz5, hczz6, hfzz4, hfzz5, hfzz6⟩ := cZ3 BKz3.out; obtain ⟨hczz7, hczz8, hczz9, hfzz7, hfzz8, hfzz9⟩ := cZ3 BKz2.out))
  refine bodyPost_ret (results_cell_row rfl _ _ gbz2 69 #[.int .i64 a0_0, .int .i64 a0_1, .int .i64 a0_2] (0, 0) _ rfl (bP BKz2.out) Tryz.underlying69 rfl (by kernel_rfl)) rfl ?_
  exact ⟨rE, (hX HB.out)⟩
end Go.Proofs.YtmljebgideecjaaGreat.P
namespace Go.Proofs.YtmljebgideecjaaGreat.P
open Go.Proofs.YtmljebgideecjaaGreatZ Go.RowKit Go.Proofs.YtmljebgideecjaaGreatW.PrintWords Go.Proofs.YtmljebgideecjaaGreatW.PrintLast Go.Proofs.YtmljebgideecjaaGreatW.PrintMore
attribute [local go_sem] max2_int min2_int max_two min_two max_three min_three max_four min_four   -- for this text's walks alone
set_option linter.unusedVariables false
set_option linter.unusedSimpArgs false
def laws_toOpS.l0 : Nat → List (S116) → List (S69) → Int → Option ((List (S69)))
  | 0, _, _, _ => none
  | k + 1, x0, x3, x4 => if x4 < (x0.length : Int) then (if 0 ≤ x4 then ((laws_toOp.f ((rd_T116 x0 x4).f0) ((rd_T116 x0 x4).f1) ((rd_T116 x0 x4).f2)).bind fun bt105 => (if x4 < (x3.length : Int) then (laws_toOpS.l0 k x0 (x3.set (x4 : Int).toNat (⟨bt105.1, bt105.2.1, bt105.2.2⟩ : S69)) (wrap64 (x4 + 1))) else (none))) else (none)) else (some x3)
def laws_toOpS.f (k : Nat) (l0 : List (S116)) : Option ((List (S69))) := if 0 ≤ (l0.length : Int) then (if ((l0.length : Int) : Int).toNat ≤ 11728124029610 then (laws_toOpS.l0 k l0 (List.replicate ((l0.length : Int) : Int).toNat z69) 0) else (none)) else (none)
set_option maxHeartbeats 8000000 in
set_option maxRecDepth 100000 in
theorem laws_toOpS.calls (k : Nat) (A0 : Option Addr) (c0 : Nat) (l0 : List (S116)) (r : List (S69)) (w : World) (hr0 : Kd.C k116 w A0 l0.length l0) (hc0 : l0.length ≤ c0) (h : laws_toOpS.f k l0 = some r) :
    Calls Tryz.prog 66 #[.slice A0 l0.length c0] w fun e w' => ∃ v0_ : Value, e = .returned (v0_) ∧ Kd.R k69 69 w' w.heap.size (fun _ => True) v0_ r ∧ Below w.heap.size w w' := by
  have hu116 := Tryz.underlying116
  have hu69 := Tryz.underlying69
  have HR0 := Aside0.mk hr0
  have HC0 := Aside0.mk hc0
  clear hr0 hc0
  have HB := Aside0.mk (Below.refl w.heap.size w)
  have H := h
  unfold laws_toOpS.f at H
  clear h
  replace H := ifP H; obtain ⟨c2, H⟩ := H
  have c2b0 := eq_true c2
  have c2b1 := decide_eq_true c2
  clear c2
  replace H := ifP H; obtain ⟨c3, H⟩ := H
  have c3b0 := eq_true c3
  have c3b1 := decide_eq_true c3
  clear c3
  obtain ⟨y101, hy101⟩ : ∃ y_ : List (S69), y_ = (List.replicate ((l0.length : Int) : Int).toNat z69) := ⟨_, rfl⟩
  replace H : (laws_toOpS.l0 k l0 y101 0) = some r := yH H hy101
  have Ny101 := Aside0.mk hy101
  clear hy101
  have H' := Aside0.mk H
  clear H
  go_enter Tryz.func66, Tryz.ntmps66
  go_wp2_with (first | ((with_reducible refine gate_dst (N := 7) rfl ?_); refine Kd.R_make k69 _ 69 rfl (N := 7) rfl 93 _ _ rfl (l0.length : Int) rfl rfl Tryz.underlying93 (.agg #[(.int .i64 0), (.int .i64 0), (.int .i64 0)]) 24 info69 rfl (by decide) (by omega) z69 (ok := fun _ => True) (okp := fun _ => True) (k69_mkM _ _ _ z69 ) (fun _ hk => hk) trivial (of_decide_eq_true (by first | (with_reducible assumption) | assumption)) (Nat.le_trans (Nat.mul_le_mul_right _ (of_decide_eq_true (by first | (with_reducible assumption) | assumption) : (l0.length : Int).toNat ≤ 11728124029610)) (by omega)) (Below.refl _ _) (Nat.le_refl _) ?_; intro vz1 wz1 hoz1 hb hg_ hnew_; clear hg_ hnew_; (first | rw [← Ny101.out] at hoz1 | (simp only [Int.reduceToNat] at hoz1; rw [← Ny101.out] at hoz1)); have HOz1 := Aside0.mk (Kd.R_lower hoz1 (below_size (hX HB.out))); replace HB := Aside0.mk (below_step (hX HB.out) hb); clear hb hoz1))
  go_loopg [4] k (fun kq v4 w' => ∃ (x3_1 : List (S69)) (x4_1 : Int), v4 = .int .i64 x4_1 ∧ Aside0 (laws_toOpS.l0 kq l0 x3_1 x4_1 = some r) ∧ Aside0 (kq ≤ k) ∧ Aside0 (Kd.R k69 69 w' w.heap.size (fun _ => True) vz1 x3_1) ∧ Aside0 (Below w.heap.size w w'))
  case atStart => exact ⟨(y101), (0), rS, H', ⟨Nat.le_refl _⟩, ⟨(rX HOz1.out)⟩, ⟨(hX HB.out)⟩⟩
  case round =>
    clear H'
    try clear c2
    try clear c2b0
    try clear c2b1
    try clear p2
    try clear c3
    try clear c3b0
    try clear c3b1
    obtain ⟨x3_1, x4_1, rfl, HA, HKy1, HO_y1, HB⟩ := hrel
    cases gk with
    | zero => exact absurd HA.out (by simp [laws_toOpS.l0])
    | succ k1 =>
      have H := HA.out
      clear HA
      simp only [laws_toOpS.l0] at H
      by_cases c6 : x4_1 < (l0.length : Int)
      · rw [if_pos c6] at H
        have c6b0 := decide_eq_true c6
        clear c6
        replace H := ifP H; obtain ⟨c7, H⟩ := H
        have c7b0 := decide_eq_true c7
        clear c7
        replace H := bE H; obtain ⟨⟨t105, t106, t107⟩, A8, H⟩ := H
        try dsimp only at H
        replace H := ifP H; obtain ⟨c9, H⟩ := H
        have c9b0 := decide_eq_true c9
        clear c9
        obtain ⟨y108, hy108⟩ : ∃ y_ : List (S69), y_ = (x3_1.set (x4_1 : Int).toNat (⟨t105, t106, t107⟩ : S69)) := ⟨_, rfl⟩
        replace H : (laws_toOpS.l0 k1 l0 y108 (wrap64 (x4_1 + 1))) = some r := yH H hy108
        have Ny108 := Aside0.mk hy108
        clear hy108
        have H' := Aside0.mk H
        clear H
        have px1 : 0 ≤ (x4_1 : Int) := of_decide_eq_true (by first | (with_reducible assumption) | assumption)
        have qx1 : x4_1 < (l0.length : Int) := of_decide_eq_true (by first | (with_reducible assumption) | assumption)
        obtain ⟨adx1, ex1, hxx1, hxx2, hxx3⟩ := at_T116 HR0.out x4_1 px1 qx1
        cases ex1
        replace hxx1 := (HB.out.cell (World.block_lt_of_cell? w _ hxx1)).trans hxx1
        replace hxx2 := (HB.out.cell (World.block_lt_of_cell? w _ hxx2)).trans hxx2
        replace hxx3 := (HB.out.cell (World.block_lt_of_cell? w _ hxx3)).trans hxx3
        replace px1 := eq_true px1
        replace qx1 := eq_true qx1
        go_wp2_with (first | (refine goesM 126 20 Tryz.func126 #[.agg #[.int .i64 ((rd_T116 l0 x4_1).f0), .int .i64 ((rd_T116 l0 x4_1).f1), .int .i64 ((rd_T116 l0 x4_1).f2)]] ?_; refine (laws_toOp.calls ((rd_T116 l0 x4_1).f0) ((rd_T116 l0 x4_1).f1) ((rd_T116 l0 x4_1).f2) t105 t106 t107 _ A8.out).mono ?_; rintro e wx1 ⟨rfl, hb⟩; refine ⟨_, rfl, ?_⟩; replace HO_y1 := Aside0.mk (Kd.R_below (rX HO_y1.out) hb); replace HB := Aside0.mk (below_step (hX HB.out) hb); clear hb; have px2 : 0 ≤ (x4_1 : Int) := of_decide_eq_true (by first | (with_reducible assumption) | assumption); have qx2 : (x4_1 : Int) < ((x3_1.length : Int) : Int) := of_decide_eq_true (by first | (with_reducible assumption) | assumption); obtain ⟨gox1, cox1, eox1, gbx1, glx1, clx1, HGx1⟩ := Kd.R_form HO_y1.out (by omega); (first | cases eox1 | (injection eox1 with ea_ en_ ec_; (first | subst ea_ | (injection ea_ with ea_; subst ea_)); subst ec_; clear en_)); have GBx1 := Aside0.mk gbx1; have GGx1 := Aside0.mk HGx1; clear gbx1 glx1 HGx1; obtain ⟨cex1, hclx1, hMx1, hccx1, hfrx1⟩ := Kd.R_elem HO_y1.out z69 (x4_1 : Int) px2 qx2; obtain rfl := k69_openM hMx1; have hxx4 : wx1.cell? ⟨gox1, (x4_1 : Int).toNat * 3, none⟩ = some (.int .i64 ((rd_T69 x3_1 x4_1).f0)) := hccx1 0 _ rfl; have hxx5 : wx1.cell? ⟨gox1, (x4_1 : Int).toNat * 3 + 1, none⟩ = some (.int .i64 ((rd_T69 x3_1 x4_1).f1)) := hccx1 1 _ rfl; have hxx6 : wx1.cell? ⟨gox1, (x4_1 : Int).toNat * 3 + 2, none⟩ = some (.int .i64 ((rd_T69 x3_1 x4_1).f2)) := hccx1 2 _ rfl; have hfx1 : wx1.frozen? ⟨gox1, (x4_1 : Int).toNat * 3, none⟩ = false := hfrx1 0; have hfx2 : wx1.frozen? ⟨gox1, (x4_1 : Int).toNat * 3 + 1, none⟩ = false := hfrx1 1; have hfx3 : wx1.frozen? ⟨gox1, (x4_1 : Int).toNat * 3 + 2, none⟩ = false := hfrx1 2; clear hclx1 hccx1 hfrx1 hMx1; replace px2 := eq_true px2; replace qx2 := eq_true qx2; have HXx1 := Aside0.mk (show Kd.R k69 69 wx1 w.heap.size (fun _ => True) (.slice (some ⟨gox1, 0, none⟩) x3_1.length cox1) x3_1 from (rX HO_y1.out)); obtain ⟨cex2, hclx2, hMx2, hccx2, hfrx2⟩ := Kd.R_elem HXx1.out z69 (x4_1 : Int) (of_decide_eq_true (by first | (with_reducible assumption) | assumption)) (by have h_ : (x4_1 : Int) < ((x3_1.length : Int) : Int) := of_decide_eq_true (by first | (with_reducible assumption) | assumption); first | exact h_ | (have e_ := (Kd.R_reads' HO_y1.out).1; omega) | simpa using h_); obtain rfl := k69_openM hMx2; have HPx1 := Kd.R_seg HXx1.out (x4_1 : Int) (of_decide_eq_true (by first | (with_reducible assumption) | assumption)) (by have h_ : (x4_1 : Int) < ((x3_1.length : Int) : Int) := of_decide_eq_true (by first | (with_reducible assumption) | assumption); first | exact h_ | (have e_ := (Kd.R_reads' HO_y1.out).1; omega) | simpa using h_) (seg := [.int .i64 t105, .int .i64 t106, .int .i64 t107]) (j := 0) hclx2 hccx2 (show 3 ≤ 3 from by decide) (x' := (⟨t105, t106, t107⟩ : S69)) (k69_mkM _ _ _ (⟨t105, t106, t107⟩ : S69) ) (fun _ hk => hk); have hxx7 := hccx2 0 _ rfl; (try simp only [show (k69).sz = 3 from rfl, Nat.mul_one, Nat.add_zero] at hxx7); have hfx4 := hfrx2 0; (try simp only [show (k69).sz = 3 from rfl, Nat.mul_one, Nat.add_zero] at hfx4); have hxx8 := hccx2 1 _ rfl; (try simp only [show (k69).sz = 3 from rfl, Nat.mul_one, Nat.add_zero] at hxx8); have hfx5 := hfrx2 1; (try simp only [show (k69).sz = 3 from rfl, Nat.mul_one, Nat.add_zero] at hfx5); have hxx9 := hccx2 2 _ rfl; (try simp only [show (k69).sz = 3 from rfl, Nat.mul_one, Nat.add_zero] at hxx9); have hfx6 := hfrx2 2; (try simp only [show (k69).sz = 3 from rfl, Nat.mul_one, Nat.add_zero] at hfx6); clear hclx2 hccx2 hfrx2 hMx2) | ((with_reducible refine gate_store (t := 69) (p := 21) rfl ?_); refine store_event (t := 69) (p := 21) (v := ?vo_wx2) (w1 := (((wx1.setCell ⟨gox1, (x4_1 : Int).toNat * 3, none⟩ (.int .i64 t105)).setCell ⟨gox1, (x4_1 : Int).toNat * 3 + 1, none⟩ (.int .i64 t106)).setCell ⟨gox1, (x4_1 : Int).toNat * 3 + 2, none⟩ (.int .i64 t107))) ?hg ?ho ?hn ?hr ?_; (case ho => rfl); (case hg => rfl); (case hn => rfl); (case hr => first | (go_simp; done) | (go_simp; rfl)); intro wx2 hw; have hg : wx1.grownBy wx2 (some gox1) := (by rw [hw]; exact HPx1.2); have hp_ : Kd.R k69 69 wx2 w.heap.size (fun _ => True) (.slice (some ⟨gox1, 0, none⟩) x3_1.length cox1) y108 := (by rw [hw, Ny108.out]; exact HPx1.1); clear HPx1; replace HO_y1 := Aside0.mk (hp_); replace HB := Aside0.mk ((by rw [hw]; exact below_set (below_set (below_set (HB.out) GBx1.out) GBx1.out) GBx1.out : Below w.heap.size w wx2)); clear hg hw hp_))
        go_roundg k1
        case measure => have := HKy1.out; omega
        case rel => exact ⟨(y108), (wrap64 (x4_1 + 1)), rS, H', ⟨by have := HKy1.out; omega⟩, ⟨(rX HO_y1.out)⟩, ⟨(hX HB.out)⟩⟩
      · rw [if_neg c6] at H
        have c6b0 := decide_eq_false c6
        clear c6
        obtain rfl := Option.some.inj H
        go_wp2
        go_ret
        exact ⟨_, rE, (rX HO_y1.out), (hX HB.out)⟩
end Go.Proofs.YtmljebgideecjaaGreat.P
namespace Go.Proofs.YtmljebgideecjaaGreat.P
open Go.Proofs.YtmljebgideecjaaGreatZ Go.RowKit Go.Proofs.YtmljebgideecjaaGreatW.PrintWords Go.Proofs.YtmljebgideecjaaGreatW.PrintLast Go.Proofs.YtmljebgideecjaaGreatW.PrintMore
attribute [local go_sem] max2_int min2_int max_two min_two max_three min_three max_four min_four   -- for this text's walks alone
set_option linter.unusedVariables false
set_option linter.unusedSimpArgs false
def laws_toThread.f (k : Nat) (l0_0 : List (S116)) (a0_1 : Int) (a0_2 : Bool) (l0_3 : List (S204)) (l0_4 : List (S206)) : Option ((List (S69)) × Int × Bool × (List (S172)) × (List (S174))) := (laws_toOpS.f k l0_0).bind fun t104 => ((laws_toPairS.f k l0_3).bind fun t107 => ((laws_toHelpS.f k l0_4).bind fun t110 => (some (t104, a0_1, a0_2, t107, t110))))
set_option maxHeartbeats 8000000 in
set_option maxRecDepth 100000 in
theorem laws_toThread.calls (k : Nat) (A0_0 : Option Addr) (c0_0 : Nat) (l0_0 : List (S116)) (a0_1 : Int) (a0_2 : Bool) (A0_3 : Option Addr) (c0_3 : Nat) (l0_3 : List (S204)) (A0_4 : Option Addr) (c0_4 : Nat) (l0_4 : List (S206)) (r1 : List (S69)) (r2 : Int) (r3 : Bool) (r4 : List (S172)) (r5 : List (S174)) (w : World) (hr0_0 : Kd.C k116 w A0_0 l0_0.length l0_0) (hc0_0 : l0_0.length ≤ c0_0) (hr0_3 : Kd.C k204 w A0_3 l0_3.length l0_3) (hc0_3 : l0_3.length ≤ c0_3) (hr0_4 : Kd.C k206 w A0_4 l0_4.length l0_4) (hc0_4 : l0_4.length ≤ c0_4) (h : laws_toThread.f k l0_0 a0_1 a0_2 l0_3 l0_4 = some (r1, r2, r3, r4, r5)) :
    Calls Tryz.prog 99 #[.agg #[.slice A0_0 l0_0.length c0_0, .int .i64 a0_1, .bool a0_2, .slice A0_3 l0_3.length c0_3, .slice A0_4 l0_4.length c0_4]] w fun e w' => ∃ v0_ v3_ v4_ : Value, e = .returned (.agg #[v0_, .int .i64 r2, .bool r3, v3_, v4_]) ∧ Kd.R k69 69 w' w.heap.size (fun _ => True) v0_ r1 ∧ Kd.R k172 172 w' w.heap.size (fun _ => True) v3_ r4 ∧ Kd.R k174 174 w' w.heap.size (fun _ => True) v4_ r5 ∧ Below w.heap.size w w' := by
  have hu114 := Tryz.underlying114
  have hu97 := Tryz.underlying97
  have HR0_0 := Aside0.mk hr0_0
  have HC0_0 := Aside0.mk hc0_0
  clear hr0_0 hc0_0
  have HR0_3 := Aside0.mk hr0_3
  have HC0_3 := Aside0.mk hc0_3
  clear hr0_3 hc0_3
  have HR0_4 := Aside0.mk hr0_4
  have HC0_4 := Aside0.mk hc0_4
  clear hr0_4 hc0_4
  have HB := Aside0.mk (Below.refl w.heap.size w)
  have H := h
  unfold laws_toThread.f at H
  clear h
  replace H := bE H; obtain ⟨t104, A2, H⟩ := H
  replace H := bE H; obtain ⟨t107, A3, H⟩ := H
  replace H := bE H; obtain ⟨t110, A4, H⟩ := H
  simp only [Option.some.injEq, Prod.mk.injEq] at H
  obtain ⟨rfl, rfl, rfl, rfl, rfl⟩ := H
  go_enter Tryz.func99, Tryz.ntmps99
  go_wp2_with (first | (refine boxE 1 #[.slice A0_0 l0_0.length c0_0, .int .i64 a0_1, .bool a0_2, .slice A0_3 l0_3.length c0_3, .slice A0_4 l0_4.length c0_4] 114 ?_; intro gbz1 hg wz1 hbox hb; have BKz1 := Aside0.mk (hbox); have GWz1 := Aside0.mk (gX' hg (hX HB.out)); have GEz1 := Aside0.mk (gX' hg (hX HB.out)); replace HB := Aside0.mk (below_step (hX HB.out) hb); clear hb hbox hg) | (refine boxE 2 #[.slice none 0 0, .int .i64 0, .bool false, .slice none 0 0, .slice none 0 0] 97 ?_; intro gbz2 hg wz2 hbox hb; have BKz2 := Aside0.mk (hbox); have GWz2 := Aside0.mk (gX' hg (hX HB.out)); have GEz2 := Aside0.mk (gX' hg (hX HB.out)); have NBz1 := Aside0.mk (gL hg (bX BKz1.out)); have NBz2 := Aside0.mk (gG hg (bX BKz1.out)); replace BKz1 := Aside0.mk (blk_below (bX BKz1.out) hb); replace HB := Aside0.mk (below_step (hX HB.out) hb); clear hb hbox hg) | (refine boxE 3 #[.slice none 0 0, .int .i64 0, .bool false, .slice none 0 0, .slice none 0 0] 97 ?_; intro gbz3 hg wz3 hbox hb; have BKz3 := Aside0.mk (hbox); have GWz3 := Aside0.mk (gX' hg (hX HB.out)); have GEz3 := Aside0.mk (gX' hg (hX HB.out)); have NBz3 := Aside0.mk (gL hg (bX BKz1.out)); have NBz4 := Aside0.mk (gG hg (bX BKz1.out)); have NBz5 := Aside0.mk (gL hg (bX BKz2.out)); have NBz6 := Aside0.mk (gG hg (bX BKz2.out)); replace BKz1 := Aside0.mk (blk_below (bX BKz1.out) hb); replace BKz2 := Aside0.mk (blk_below (bX BKz2.out) hb); replace HB := Aside0.mk (below_step (hX HB.out) hb); clear hb hbox hg; have hnbz1 := NBz1.out; have hncz1 := NBz2.out; have hnbz2 := NBz3.out; have hncz2 := NBz4.out; obtain ⟨hczz1, hczz2, hczz3, hczz4, hczz5, hfzz1, hfzz2, hfzz3, hfzz4, hfzz5⟩ := cZ5 BKz1.out) | (refine goesM 66 6 Tryz.func66 #[.slice A0_0 l0_0.length c0_0] ?_; refine (laws_toOpS.calls k _ _ l0_0 t104 _ (cC HR0_0.out HB.out) HC0_0.out A2.out).mono ?_; rintro e wz4 ⟨vz1, rfl, hoz1, hb⟩; refine ⟨_, rfl, ?_⟩; have HOz1 := Aside0.mk (Kd.R_lower hoz1 (below_size (hX HB.out))); replace BKz1 := Aside0.mk (blk_below (bX BKz1.out) hb); replace BKz2 := Aside0.mk (blk_below (bX BKz2.out) hb); replace BKz3 := Aside0.mk (blk_below (bX BKz3.out) hb); replace HB := Aside0.mk (below_step (hX HB.out) hb); clear hb hoz1; obtain ⟨Aoz1, coz1, eoz1⟩ := Kd.R_slice HOz1.out; subst eoz1; have hnbz3 := NBz6.out; have hncz3 := NBz5.out; obtain ⟨hczz6, hczz7, hczz8, hczz9, hczz10, hfzz6, hfzz7, hfzz8, hfzz9, hfzz10⟩ := cZ5 BKz3.out; obtain ⟨hczz11, hczz12, hczz13, hczz14, hczz15, hfzz11, hfzz12, hfzz13, hfzz14, hfzz15⟩ := cZ5 BKz1.out) | (refine goesM 166 16 Tryz.func166 #[.slice A0_3 l0_3.length c0_3] ?_; refine (laws_toPairS.calls k _ _ l0_3 t107 _ (by exact Kd.C_below HR0_3.out (hX HB.out)) HC0_3.out A3.out).mono ?_; rintro e wz5 ⟨vz2, rfl, hoz1, hb⟩; refine ⟨_, rfl, ?_⟩; have HOz2 := Aside0.mk (Kd.R_lower hoz1 (below_size (hX HB.out))); replace HOz1 := Aside0.mk (Kd.R_below (rT (h := by exact (Kd.R_mono (Kd.R_far (p := ⟨gbz3, 2, none⟩) (Kd.R_far (p := ⟨gbz3, 1, none⟩) (Kd.R_far (p := ⟨gbz3, 0, none⟩) (Kd.R_types HOz1.out BKz3.out (by decide)) (fun _ hk => hk.2) (.slice Aoz1 t104.length coz1)) (fun _ hk => hk.2) (.int .i64 a0_1)) (fun _ hk => hk.2) (.bool a0_2)) (fun _ h_ => h_.1)))) hb); replace BKz1 := Aside0.mk (blk_below (bF BKz1.out) hb); replace BKz2 := Aside0.mk (blk_below (bF BKz2.out) hb); replace BKz3 := Aside0.mk (blk_below (g := gbz3) (o := .cells #[.slice Aoz1 t104.length coz1, .int .i64 a0_1, .bool a0_2, .slice none 0 0, .slice none 0 0] 97 (0, 0)) (bP BKz3.out) hb); replace HB := Aside0.mk (below_step (hX HB.out) hb); clear hb hoz1; obtain ⟨Aoz2, coz2, eoz2⟩ := Kd.R_slice HOz2.out; subst eoz2; obtain ⟨hczz16, hczz17, hczz18, hczz19, hczz20, hfzz16, hfzz17, hfzz18, hfzz19, hfzz20⟩ := cZ5 BKz3.out; obtain ⟨hczz21, hczz22, hczz23, hczz24, hczz25, hfzz21, hfzz22, hfzz23, hfzz24, hfzz25⟩ := cZ5 BKz1.out) | (refine goesM 167 20 Tryz.func167 #[.slice A0_4 l0_4.length c0_4] ?_; refine (laws_toHelpS.calls k _ _ l0_4 t110 _ (by exact Kd.C_below HR0_4.out (hX HB.out)) HC0_4.out A4.out).mono ?_; rintro e wz6 ⟨vz3, rfl, hoz1, hb⟩; refine ⟨_, rfl, ?_⟩; have HOz3 := Aside0.mk (Kd.R_lower hoz1 (below_size (hX HB.out))); replace HOz1 := Aside0.mk (Kd.R_below (rT (h := by exact (Kd.R_mono (Kd.R_far (p := ⟨gbz3, 3, none⟩) (Kd.R_types HOz1.out BKz3.out (by decide)) (fun _ hk => hk.2) (.slice Aoz2 t107.length coz2)) (fun _ h_ => h_.1)))) hb); replace HOz2 := Aside0.mk (Kd.R_below (rT (h := by exact (Kd.R_mono (Kd.R_far (p := ⟨gbz3, 3, none⟩) (Kd.R_types HOz2.out BKz3.out (by decide)) (fun _ hk => hk.2) (.slice Aoz2 t107.length coz2)) (fun _ h_ => h_.1)))) hb); replace BKz1 := Aside0.mk (blk_below (bF BKz1.out) hb); replace BKz2 := Aside0.mk (blk_below (bF BKz2.out) hb); replace BKz3 := Aside0.mk (blk_below (g := gbz3) (o := .cells #[.slice Aoz1 t104.length coz1, .int .i64 a0_1, .bool a0_2, .slice Aoz2 t107.length coz2, .slice none 0 0] 97 (0, 0)) (bP BKz3.out) hb); replace HB := Aside0.mk (below_step (hX HB.out) hb); clear hb hoz1; obtain ⟨Aoz3, coz3, eoz3⟩ := Kd.R_slice HOz3.out; subst eoz3; obtain ⟨hczz26, hczz27, hczz28, hczz29, hczz30, hfzz26, hfzz27, hfzz28, hfzz29, hfzz30⟩ := cZ5 BKz3.out; obtain ⟨hczz31, hczz32, hczz33, hczz34, hczz35, hfzz31, hfzz32, hfzz33, hfzz34, hfzz35⟩ := cZ5 BKz2.out))
  refine bodyPost_ret (results_cell_row rfl _ _ gbz2 97 #[.slice Aoz1 t104.length coz1, .int .i64 a0_1, .bool a0_2, .slice Aoz2 t107.length coz2, .slice Aoz3 t110.length coz3] (0, 0) _ rfl (bP BKz2.out) Tryz.underlying97 rfl (by kernel_rfl)) rfl ?_
  exact ⟨_, _, _, rE, (rT (h := by exact Kd.R_mono (Kd.R_far (p := ⟨gbz2, 4, none⟩) (Kd.R_far (p := ⟨gbz2, 3, none⟩) (Kd.R_far (p := ⟨gbz2, 2, none⟩) (Kd.R_far (p := ⟨gbz2, 1, none⟩) (Kd.R_far (p := ⟨gbz2, 0, none⟩) (Kd.R_far (p := ⟨gbz3, 4, none⟩) (Kd.R_types (Kd.R_types HOz1.out BKz3.out (by decide)) BKz2.out (by decide)) (fun _ hk => hk.1.2) (.slice Aoz3 t110.length coz3)) (fun _ hk => hk.2) (.slice Aoz1 t104.length coz1)) (fun _ hk => hk.2) (.int .i64 a0_1)) (fun _ hk => hk.2) (.bool a0_2)) (fun _ hk => hk.2) (.slice Aoz2 t107.length coz2)) (fun _ hk => hk.2) (.slice Aoz3 t110.length coz3)) (fun _ hk => trivial))), (rT (h := by exact Kd.R_mono (Kd.R_far (p := ⟨gbz2, 4, none⟩) (Kd.R_far (p := ⟨gbz2, 3, none⟩) (Kd.R_far (p := ⟨gbz2, 2, none⟩) (Kd.R_far (p := ⟨gbz2, 1, none⟩) (Kd.R_far (p := ⟨gbz2, 0, none⟩) (Kd.R_far (p := ⟨gbz3, 4, none⟩) (Kd.R_types (Kd.R_types HOz2.out BKz3.out (by decide)) BKz2.out (by decide)) (fun _ hk => hk.1.2) (.slice Aoz3 t110.length coz3)) (fun _ hk => hk.2) (.slice Aoz1 t104.length coz1)) (fun _ hk => hk.2) (.int .i64 a0_1)) (fun _ hk => hk.2) (.bool a0_2)) (fun _ hk => hk.2) (.slice Aoz2 t107.length coz2)) (fun _ hk => hk.2) (.slice Aoz3 t110.length coz3)) (fun _ hk => trivial))), (rT (h := by exact Kd.R_mono (Kd.R_far (p := ⟨gbz2, 4, none⟩) (Kd.R_far (p := ⟨gbz2, 3, none⟩) (Kd.R_far (p := ⟨gbz2, 2, none⟩) (Kd.R_far (p := ⟨gbz2, 1, none⟩) (Kd.R_far (p := ⟨gbz2, 0, none⟩) (Kd.R_far (p := ⟨gbz3, 4, none⟩) (Kd.R_types (Kd.R_types HOz3.out BKz3.out (by decide)) BKz2.out (by decide)) (fun _ hk => hk.1.2) (.slice Aoz3 t110.length coz3)) (fun _ hk => hk.2) (.slice Aoz1 t104.length coz1)) (fun _ hk => hk.2) (.int .i64 a0_1)) (fun _ hk => hk.2) (.bool a0_2)) (fun _ hk => hk.2) (.slice Aoz2 t107.length coz2)) (fun _ hk => hk.2) (.slice Aoz3 t110.length coz3)) (fun _ hk => trivial))), (hX HB.out)⟩
end Go.Proofs.YtmljebgideecjaaGreat.P
namespace Go.Proofs.YtmljebgideecjaaGreat.P
open Go.Proofs.YtmljebgideecjaaGreatZ Go.RowKit Go.Proofs.YtmljebgideecjaaGreatW.PrintWords Go.Proofs.YtmljebgideecjaaGreatW.PrintLast Go.Proofs.YtmljebgideecjaaGreatW.PrintMore
attribute [local go_sem] max2_int min2_int max_two min_two max_three min_three max_four min_four   -- for this text's walks alone
set_option linter.unusedVariables false
set_option linter.unusedSimpArgs false
def laws_toThreadS.l0 : Nat → List (S114) → List (S97) → Int → Option ((List (S97)))
  | 0, _, _, _ => none
  | k + 1, x0, x3, x4 => if x4 < (x0.length : Int) then (if 0 ≤ x4 then ((laws_toThread.f k ((rd_T114 x0 x4).f0) ((rd_T114 x0 x4).f1) ((rd_T114 x0 x4).f2) ((rd_T114 x0 x4).f3) ((rd_T114 x0 x4).f4)).bind fun bt105 => (if x4 < (x3.length : Int) then (laws_toThreadS.l0 k x0 (x3.set (x4 : Int).toNat (⟨bt105.1, bt105.2.1, bt105.2.2.1, bt105.2.2.2.1, bt105.2.2.2.2⟩ : S97)) (wrap64 (x4 + 1))) else (none))) else (none)) else (some x3)
def laws_toThreadS.f (k : Nat) (l0 : List (S114)) : Option ((List (S97))) := if 0 ≤ (l0.length : Int) then (if ((l0.length : Int) : Int).toNat ≤ 3198579280802 then (laws_toThreadS.l0 k l0 (List.replicate ((l0.length : Int) : Int).toNat z97) 0) else (none)) else (none)
set_option maxHeartbeats 8000000 in
set_option maxRecDepth 100000 in
theorem laws_toThreadS.calls (k : Nat) (A0 : Option Addr) (c0 : Nat) (l0 : List (S114)) (r : List (S97)) (w : World) (hr0 : Kd.C k114 w A0 l0.length l0) (hc0 : l0.length ≤ c0) (h : laws_toThreadS.f k l0 = some r) :
    Calls Tryz.prog 45 #[.slice A0 l0.length c0] w fun e w' => ∃ v0_ : Value, e = .returned (v0_) ∧ Kd.S k97 97 w' w.heap.size (fun _ => True) v0_ r ∧ Below w.heap.size w w' := by
  have hu114 := Tryz.underlying114
  have hu97 := Tryz.underlying97
  have HR0 := Aside0.mk hr0
  have HC0 := Aside0.mk hc0
  clear hr0 hc0
  have HB := Aside0.mk (Below.refl w.heap.size w)
  have H := h
  unfold laws_toThreadS.f at H
  clear h
  replace H := ifP H; obtain ⟨c2, H⟩ := H
  have c2b0 := eq_true c2
  have c2b1 := decide_eq_true c2
  clear c2
  replace H := ifP H; obtain ⟨c3, H⟩ := H
  have c3b0 := eq_true c3
  have c3b1 := decide_eq_true c3
  clear c3
  obtain ⟨y101, hy101⟩ : ∃ y_ : List (S97), y_ = (List.replicate ((l0.length : Int) : Int).toNat z97) := ⟨_, rfl⟩
  replace H : (laws_toThreadS.l0 k l0 y101 0) = some r := yH H hy101
  have Ny101 := Aside0.mk hy101
  clear hy101
  have H' := Aside0.mk H
  clear H
  go_enter Tryz.func45, Tryz.ntmps45
  go_wp2_with (first | ((with_reducible refine gate_dst (N := 7) rfl ?_); refine Kd.S_make k97 _ 97 rfl (N := 7) rfl 39 _ _ rfl (l0.length : Int) rfl rfl Tryz.underlying39 (.agg #[(.slice none 0 0), (.int .i64 0), (.bool false), (.slice none 0 0), (.slice none 0 0)]) 88 info97 rfl (by decide) (by omega) z97 (ok := fun _ => True) (okp := fun _ => True) (k97_mkM _ _ _ z97 (Kd.R_nil _ _ _ _ _) (Kd.R_nil _ _ _ _ _) (Kd.R_nil _ _ _ _ _)) (fun _ hk => hk) trivial (of_decide_eq_true (by first | (with_reducible assumption) | assumption)) (Nat.le_trans (Nat.mul_le_mul_right _ (of_decide_eq_true (by first | (with_reducible assumption) | assumption) : (l0.length : Int).toNat ≤ 3198579280802)) (by omega)) (Below.refl _ _) (Nat.le_refl _) ?_; intro vz1 wz1 hoz1 hb hg_ hnew_; clear hg_ hnew_; (first | rw [← Ny101.out] at hoz1 | (simp only [Int.reduceToNat] at hoz1; rw [← Ny101.out] at hoz1)); have HOz1 := Aside0.mk (Kd.S_lower hoz1 (below_size (hX HB.out))); replace HB := Aside0.mk (below_step (hX HB.out) hb); clear hb hoz1))
  go_loopg [4] k (fun kq v4 w' => ∃ (x3_1 : List (S97)) (x4_1 : Int), v4 = .int .i64 x4_1 ∧ Aside0 (laws_toThreadS.l0 kq l0 x3_1 x4_1 = some r) ∧ Aside0 (kq ≤ k) ∧ Aside0 (Kd.S k97 97 w' w.heap.size (fun _ => True) vz1 x3_1) ∧ Aside0 (Below w.heap.size w w'))
  case atStart => exact ⟨(y101), (0), rS, H', ⟨Nat.le_refl _⟩, ⟨(sX HOz1.out)⟩, ⟨(hX HB.out)⟩⟩
  case round =>
    clear H'
    try clear c2
    try clear c2b0
    try clear c2b1
    try clear p2
    try clear c3
    try clear c3b0
    try clear c3b1
    try clear c4
    obtain ⟨x3_1, x4_1, rfl, HA, HKy1, HO_y1, HB⟩ := hrel
    cases gk with
    | zero => exact absurd HA.out (by simp [laws_toThreadS.l0])
    | succ k1 =>
      have H := HA.out
      clear HA
      simp only [laws_toThreadS.l0] at H
      by_cases c6 : x4_1 < (l0.length : Int)
      · rw [if_pos c6] at H
        have c6b0 := decide_eq_true c6
        clear c6
        replace H := ifP H; obtain ⟨c7, H⟩ := H
        have c7b0 := decide_eq_true c7
        clear c7
        replace H := bE H; obtain ⟨⟨t105, t108, t109, t110, t113⟩, A8, H⟩ := H
        try dsimp only at H
        replace H := ifP H; obtain ⟨c9, H⟩ := H
        have c9b0 := decide_eq_true c9
        clear c9
        obtain ⟨y116, hy116⟩ : ∃ y_ : List (S97), y_ = (x3_1.set (x4_1 : Int).toNat (⟨t105, t108, t109, t110, t113⟩ : S97)) := ⟨_, rfl⟩
        replace H : (laws_toThreadS.l0 k1 l0 y116 (wrap64 (x4_1 + 1))) = some r := yH H hy116
        have Ny116 := Aside0.mk hy116
        clear hy116
        have H' := Aside0.mk H
        clear H
        have px1 : 0 ≤ (x4_1 : Int) := of_decide_eq_true (by first | (with_reducible assumption) | assumption)
        have qx1 : x4_1 < (l0.length : Int) := of_decide_eq_true (by first | (with_reducible assumption) | assumption)
        obtain ⟨adx1, Ax1, cx1, Ax2, cx2, Ax3, cx3, ex1, hxx1, hxx2, hxx3, hxx4, hxx5, hlx1, hix1, hlx2, hix2, hlx3, hix3⟩ := at_T114 HR0.out x4_1 px1 qx1
        cases ex1
        replace hxx1 := (HB.out.cell (World.block_lt_of_cell? w _ hxx1)).trans hxx1
        replace hxx2 := (HB.out.cell (World.block_lt_of_cell? w _ hxx2)).trans hxx2
        replace hxx3 := (HB.out.cell (World.block_lt_of_cell? w _ hxx3)).trans hxx3
        replace hxx4 := (HB.out.cell (World.block_lt_of_cell? w _ hxx4)).trans hxx4
        replace hxx5 := (HB.out.cell (World.block_lt_of_cell? w _ hxx5)).trans hxx5
        have HRx1 := Aside0.mk hix1
        have HCx1 := Aside0.mk hlx1
        clear hix1 hlx1
        have HRx2 := Aside0.mk hix2
        have HCx2 := Aside0.mk hlx2
        clear hix2 hlx2
        have HRx3 := Aside0.mk hix3
        have HCx3 := Aside0.mk hlx3
        clear hix3 hlx3
        replace px1 := eq_true px1
        replace qx1 := eq_true qx1
        go_wp2_with (first | (refine goesM 99 20 Tryz.func99 #[.agg #[.slice Ax1 ((rd_T114 l0 x4_1).f0).length cx1, .int .i64 ((rd_T114 l0 x4_1).f1), .bool ((rd_T114 l0 x4_1).f2), .slice Ax2 ((rd_T114 l0 x4_1).f3).length cx2, .slice Ax3 ((rd_T114 l0 x4_1).f4).length cx3]] ?_; refine (laws_toThread.calls k1 _ _ ((rd_T114 l0 x4_1).f0) ((rd_T114 l0 x4_1).f1) ((rd_T114 l0 x4_1).f2) _ _ ((rd_T114 l0 x4_1).f3) _ _ ((rd_T114 l0 x4_1).f4) t105 t108 t109 t110 t113 _ (cC HRx1.out HB.out) HCx1.out (cC HRx2.out HB.out) HCx2.out (cC HRx3.out HB.out) HCx3.out A8.out).mono ?_; rintro e wx1 ⟨vx1, vx2, vx3, rfl, hox1, hox2, hox3, hb⟩; refine ⟨_, rfl, ?_⟩; have HOx1 := Aside0.mk (Kd.R_lower hox1 (below_size (hX HB.out))); have HOx2 := Aside0.mk (Kd.R_lower hox2 (below_size (hX HB.out))); have HOx3 := Aside0.mk (Kd.R_lower hox3 (below_size (hX HB.out))); replace HO_y1 := Aside0.mk (Kd.S_mono (Kd.S_told (Kd.S_told (Kd.S_told (Kd.S_old (sX HO_y1.out) hb) (Kd.R_base hox1)) (Kd.R_base hox2)) (Kd.R_base hox3)) (fun _ h_ => h_.1)); replace HB := Aside0.mk (below_step (hX HB.out) hb); clear hb hox1 hox2 hox3; have px2 : 0 ≤ (x4_1 : Int) := of_decide_eq_true (by first | (with_reducible assumption) | assumption); have qx2 : (x4_1 : Int) < ((x3_1.length : Int) : Int) := of_decide_eq_true (by first | (with_reducible assumption) | assumption); obtain ⟨gox1, cox1, eox1, gbx1, glx1, clx1, HGx1⟩ := Kd.S_form HO_y1.out (by omega); (first | cases eox1 | (injection eox1 with ea_ en_ ec_; (first | subst ea_ | (injection ea_ with ea_; subst ea_)); subst ec_; clear en_)); have GBx1 := Aside0.mk gbx1; have GGx1 := Aside0.mk HGx1; clear gbx1 glx1 HGx1; obtain ⟨_, cex1, hclx1, hMx1, hccx1, hfrx1, _, _⟩ := Kd.S_elem HO_y1.out z97 (x4_1 : Int) px2 qx2; obtain ⟨vex1, vex2, vex3, rfl, gex1, gex2, gex3⟩ := k97_openM hMx1; have hxx6 : wx1.cell? ⟨gox1, (x4_1 : Int).toNat * 5, none⟩ = some (vex1) := hccx1 0 _ rfl; have hxx7 : wx1.cell? ⟨gox1, (x4_1 : Int).toNat * 5 + 1, none⟩ = some (.int .i64 ((rd_T97 x3_1 x4_1).f1)) := hccx1 1 _ rfl; have hxx8 : wx1.cell? ⟨gox1, (x4_1 : Int).toNat * 5 + 2, none⟩ = some (.bool ((rd_T97 x3_1 x4_1).f2)) := hccx1 2 _ rfl; have hxx9 : wx1.cell? ⟨gox1, (x4_1 : Int).toNat * 5 + 3, none⟩ = some (vex2) := hccx1 3 _ rfl; have hxx10 : wx1.cell? ⟨gox1, (x4_1 : Int).toNat * 5 + 4, none⟩ = some (vex3) := hccx1 4 _ rfl; have hfx1 : wx1.frozen? ⟨gox1, (x4_1 : Int).toNat * 5, none⟩ = false := hfrx1 0; have hfx2 : wx1.frozen? ⟨gox1, (x4_1 : Int).toNat * 5 + 1, none⟩ = false := hfrx1 1; have hfx3 : wx1.frozen? ⟨gox1, (x4_1 : Int).toNat * 5 + 2, none⟩ = false := hfrx1 2; have hfx4 : wx1.frozen? ⟨gox1, (x4_1 : Int).toNat * 5 + 3, none⟩ = false := hfrx1 3; have hfx5 : wx1.frozen? ⟨gox1, (x4_1 : Int).toNat * 5 + 4, none⟩ = false := hfrx1 4; clear hclx1 hccx1 hfrx1 hMx1; replace px2 := eq_true px2; replace qx2 := eq_true qx2; obtain ⟨Aox1, cox2, eox2⟩ := Kd.R_slice HOx1.out; subst eox2; obtain ⟨Aox2, cox3, eox3⟩ := Kd.R_slice HOx2.out; subst eox3; obtain ⟨Aox3, cox4, eox4⟩ := Kd.R_slice HOx3.out; subst eox4; have n_ := Aside0.mk (Kd.S_mono (ok' := (fun k_ => some k_ ≠ (.slice Aox1 t105.length cox2 : Value).ownBlock ∧ some k_ ≠ (.slice Aox2 t110.length cox3 : Value).ownBlock ∧ some k_ ≠ (.slice Aox3 t113.length cox4 : Value).ownBlock)) HO_y1.out (fun k_ hk => ⟨hk.1.1.2, ⟨hk.1.2, hk.2⟩⟩)); clear HO_y1; have HO_y1 := n_; clear n_; have HXx1 := Aside0.mk (show Kd.S k97 97 wx1 w.heap.size (fun k_ => ((fun _ => True)) k_ ∧ ¬ ((fun k_ => some k_ = (.slice Aox1 t105.length cox2 : Value).ownBlock ∨ some k_ = (.slice Aox2 t110.length cox3 : Value).ownBlock ∨ some k_ = (.slice Aox3 t113.length cox4 : Value).ownBlock)) k_) (.slice (some ⟨gox1, 0, none⟩) x3_1.length cox1) x3_1 from (by (with_reducible repeat (first | apply Kd.S_alloc | apply Kd.S_drewN | apply Kd.S_drew)); exact Kd.S_mono HO_y1.out (fun k_ hk => ⟨trivial, fun e_ => e_.elim (fun h_ => hk.1 h_) (fun h_ => h_.elim (fun h_ => hk.2.1 h_) (fun h_ => hk.2.2 h_))⟩))); obtain ⟨okix1, cex2, hclx2, hMx2, hccx2, hfrx2, hokix1, hHx1⟩ := Kd.S_elem HXx1.out z97 (x4_1 : Int) (of_decide_eq_true (by first | (with_reducible assumption) | assumption)) (by have h_ : (x4_1 : Int) < ((x3_1.length : Int) : Int) := of_decide_eq_true (by first | (with_reducible assumption) | assumption); first | exact h_ | (have e_ := (Kd.S_reads' HO_y1.out).1; omega) | simpa using h_); obtain ⟨vex4, vex5, vex6, rfl, gex4, gex5, gex6⟩ := k97_openM hMx2; have HPx1 := Kd.S_seg hHx1 (of_decide_eq_true (by first | (with_reducible assumption) | assumption)) (by have h_ : (x4_1 : Int) < ((x3_1.length : Int) : Int) := of_decide_eq_true (by first | (with_reducible assumption) | assumption); first | exact h_ | (have e_ := (Kd.S_reads' HO_y1.out).1; omega) | simpa using h_) (seg := [.slice Aox1 t105.length cox2, .int .i64 t108, .bool t109, .slice Aox2 t110.length cox3, .slice Aox3 t113.length cox4]) (j := 0) (show 5 ≤ 5 from by decide) (x' := (⟨t105, t108, t109, t110, t113⟩ : S97)) (k97_mkM _ _ _ (⟨t105, t108, t109, t110, t113⟩ : S97) (Kd.R_mono (Kd.R_tight rfl (Kd.R_mono (ok' := fun k_ => ((fun _ => True)) k_ ∧ k_ ≠ gox1) (Kd.R_apart' (HOx1.out) (Kd.S_typed HO_y1.out) (by decide)) (fun k_ hk => ⟨trivial, fun e_ => (hk.2) (by rw [e_]; rfl)⟩))) (fun _ h_ => Or.inr (Or.inl h_))) (Kd.R_mono (Kd.R_tight rfl (Kd.R_mono (ok' := fun k_ => ((fun _ => True)) k_ ∧ k_ ≠ gox1) (Kd.R_apart' (HOx2.out) (Kd.S_typed HO_y1.out) (by decide)) (fun k_ hk => ⟨trivial, fun e_ => (hk.2) (by rw [e_]; rfl)⟩))) (fun _ h_ => Or.inr (Or.inr (Or.inl h_)))) (Kd.R_mono (Kd.R_tight rfl (Kd.R_mono (ok' := fun k_ => ((fun _ => True)) k_ ∧ k_ ≠ gox1) (Kd.R_apart' (HOx3.out) (Kd.S_typed HO_y1.out) (by decide)) (fun k_ hk => ⟨trivial, fun e_ => (hk.2) (by rw [e_]; rfl)⟩))) (fun _ h_ => Or.inr (Or.inr (Or.inr (h_)))))) (fun _ hk => hk) (fun k_ hk_ => hk_.elim (fun h_ => ((Kd.R_mono (ok' := fun k_ => ((fun _ => True)) k_ ∧ k_ ≠ gox1) (Kd.R_apart' (HOx1.out) (Kd.S_typed HO_y1.out) (by decide)) (fun k_ hk => ⟨trivial, fun e_ => (hk.2) (by rw [e_]; rfl)⟩))).1 k_ h_.symm) (fun h_ => h_.elim (fun h_ => ((Kd.R_mono (ok' := fun k_ => ((fun _ => True)) k_ ∧ k_ ≠ gox1) (Kd.R_apart' (HOx2.out) (Kd.S_typed HO_y1.out) (by decide)) (fun k_ hk => ⟨trivial, fun e_ => (hk.2) (by rw [e_]; rfl)⟩))).1 k_ h_.symm) (fun h_ => ((Kd.R_mono (ok' := fun k_ => ((fun _ => True)) k_ ∧ k_ ≠ gox1) (Kd.R_apart' (HOx3.out) (Kd.S_typed HO_y1.out) (by decide)) (fun k_ hk => ⟨trivial, fun e_ => (hk.2) (by rw [e_]; rfl)⟩))).1 k_ h_.symm))); have hxx11 := hccx2 0 _ rfl; (try simp only [show (k97).sz = 5 from rfl, Nat.mul_one, Nat.add_zero] at hxx11); have hfx6 := hfrx2 0; (try simp only [show (k97).sz = 5 from rfl, Nat.mul_one, Nat.add_zero] at hfx6); have hxx12 := hccx2 1 _ rfl; (try simp only [show (k97).sz = 5 from rfl, Nat.mul_one, Nat.add_zero] at hxx12); have hfx7 := hfrx2 1; (try simp only [show (k97).sz = 5 from rfl, Nat.mul_one, Nat.add_zero] at hfx7); have hxx13 := hccx2 2 _ rfl; (try simp only [show (k97).sz = 5 from rfl, Nat.mul_one, Nat.add_zero] at hxx13); have hfx8 := hfrx2 2; (try simp only [show (k97).sz = 5 from rfl, Nat.mul_one, Nat.add_zero] at hfx8); have hxx14 := hccx2 3 _ rfl; (try simp only [show (k97).sz = 5 from rfl, Nat.mul_one, Nat.add_zero] at hxx14); have hfx9 := hfrx2 3; (try simp only [show (k97).sz = 5 from rfl, Nat.mul_one, Nat.add_zero] at hfx9); have hxx15 := hccx2 4 _ rfl; (try simp only [show (k97).sz = 5 from rfl, Nat.mul_one, Nat.add_zero] at hxx15); have hfx10 := hfrx2 4; (try simp only [show (k97).sz = 5 from rfl, Nat.mul_one, Nat.add_zero] at hfx10); clear hclx2 hccx2 hfrx2 hMx2 hokix1 hHx1) | ((with_reducible refine gate_store (t := 97) (p := 21) rfl ?_); refine store_event (t := 97) (p := 21) (v := ?vo_wx2) (w1 := (((((wx1.setCell ⟨gox1, (x4_1 : Int).toNat * 5, none⟩ (.slice Aox1 t105.length cox2)).setCell ⟨gox1, (x4_1 : Int).toNat * 5 + 1, none⟩ (.int .i64 t108)).setCell ⟨gox1, (x4_1 : Int).toNat * 5 + 2, none⟩ (.bool t109)).setCell ⟨gox1, (x4_1 : Int).toNat * 5 + 3, none⟩ (.slice Aox2 t110.length cox3)).setCell ⟨gox1, (x4_1 : Int).toNat * 5 + 4, none⟩ (.slice Aox3 t113.length cox4))) ?hg ?ho ?hn ?hr ?_; (case ho => rfl); (case hg => rfl); (case hn => rfl); (case hr => first | (go_simp; done) | (go_simp; rfl)); intro wx2 hw; have hg : wx1.grownBy wx2 (some gox1) := (by rw [hw]; exact HPx1.2); have hp_ : Kd.S k97 97 wx2 w.heap.size (fun _ => True) (.slice (some ⟨gox1, 0, none⟩) x3_1.length cox1) y116 := (by rw [hw, Ny116.out]; exact HPx1.1); clear HPx1; replace HO_y1 := Aside0.mk (hp_); replace HB := Aside0.mk ((by rw [hw]; exact below_set (below_set (below_set (below_set (below_set (HB.out) GBx1.out) GBx1.out) GBx1.out) GBx1.out) GBx1.out : Below w.heap.size w wx2)); clear HOx1 HOx2 HOx3; clear hg hw hp_))
        go_roundg k1
        case measure => have := HKy1.out; omega
        case rel => exact ⟨(y116), (wrap64 (x4_1 + 1)), rS, H', ⟨by have := HKy1.out; omega⟩, ⟨(sX HO_y1.out)⟩, ⟨(hX HB.out)⟩⟩
      · rw [if_neg c6] at H
        have c6b0 := decide_eq_false c6
        clear c6
        obtain rfl := Option.some.inj H
        go_wp2
        go_ret
        exact ⟨_, rE, (sX HO_y1.out), (hX HB.out)⟩
end Go.Proofs.YtmljebgideecjaaGreat.P
namespace Go.Proofs.YtmljebgideecjaaGreat.P
open Go.Proofs.YtmljebgideecjaaGreatZ Go.RowKit Go.Proofs.YtmljebgideecjaaGreatW.PrintWords Go.Proofs.YtmljebgideecjaaGreatW.PrintLast Go.Proofs.YtmljebgideecjaaGreatW.PrintMore
attribute [local go_sem] max2_int min2_int max_two min_two max_three min_three max_four min_four   -- for this text's walks alone
set_option linter.unusedVariables false
set_option linter.unusedSimpArgs false
def laws_toCall.f (k : Nat) (a0_0 : Int) (a0_1 : Int) (a0_2 : Int) (a0_3 : Int) (a0_4 : Int) (a0_5 : Int) (a0_6 : Int) (a0_7 : Int) (l0_8 : List Int) : Option (Int × Int × Int × Int × Int × Int × Int × Int × List Int) := (laws_toOp.f a0_1 a0_2 a0_3).bind fun bt104 => ((laws_toRes.f k a0_7 l0_8).bind fun bt107 => (some (a0_0, bt104.1, bt104.2.1, bt104.2.2, a0_4, a0_5, a0_6, bt107.1, bt107.2)))
set_option maxHeartbeats 8000000 in
set_option maxRecDepth 100000 in
theorem laws_toCall.calls (k : Nat) (a0_0 : Int) (a0_1 : Int) (a0_2 : Int) (a0_3 : Int) (a0_4 : Int) (a0_5 : Int) (a0_6 : Int) (a0_7 : Int) (A0_8 : Option Addr) (c0_8 : Nat) (l0_8 : List Int) (r1 : Int) (r2 : Int) (r3 : Int) (r4 : Int) (r5 : Int) (r6 : Int) (r7 : Int) (r8 : Int) (r9 : List Int) (w : World) (hr0_8 : Kd.C (Kd.int .i64) w A0_8 l0_8.length l0_8) (hc0_8 : l0_8.length ≤ c0_8) (h : laws_toCall.f k a0_0 a0_1 a0_2 a0_3 a0_4 a0_5 a0_6 a0_7 l0_8 = some (r1, r2, r3, r4, r5, r6, r7, r8, r9)) :
    Calls Tryz.prog 100 #[.agg #[.int .i64 a0_0, .int .i64 a0_1, .int .i64 a0_2, .int .i64 a0_3, .int .i64 a0_4, .int .i64 a0_5, .int .i64 a0_6, .int .i64 a0_7, .slice A0_8 l0_8.length c0_8]] w fun e w' => ∃ v8_ : Value, e = .returned (.agg #[.int .i64 r1, .int .i64 r2, .int .i64 r3, .int .i64 r4, .int .i64 r5, .int .i64 r6, .int .i64 r7, .int .i64 r8, v8_]) ∧ Kd.R (Kd.int .i64) 3 w' w.heap.size (fun _ => True) v8_ r9 ∧ Below w.heap.size w w' := by
  have hu119 := Tryz.underlying119
  have hu73 := Tryz.underlying73
  have hu116 := Tryz.underlying116
  have hu69 := Tryz.underlying69
  have hu117 := Tryz.underlying117
  have hu71 := Tryz.underlying71
  have HR0_8 := Aside0.mk hr0_8
  have HC0_8 := Aside0.mk hc0_8
  clear hr0_8 hc0_8
  have HB := Aside0.mk (Below.refl w.heap.size w)
  have H := h
  unfold laws_toCall.f at H
  clear h
  replace H := bE H; obtain ⟨⟨t104, t105, t106⟩, A2, H⟩ := H
  try dsimp only at H
  replace H := bE H; obtain ⟨⟨t107, t108⟩, A3, H⟩ := H
  try dsimp only at H
  simp only [Option.some.injEq, Prod.mk.injEq] at H
  obtain ⟨rfl, rfl, rfl, rfl, rfl, rfl, rfl, rfl, rfl⟩ := H
  go_enter Tryz.func100, Tryz.ntmps100
  go_wp2_with (first | (refine boxE 1 #[.int .i64 a0_0, .int .i64 a0_1, .int .i64 a0_2, .int .i64 a0_3, .int .i64 a0_4, .int .i64 a0_5, .int .i64 a0_6, .int .i64 a0_7, .slice A0_8 l0_8.length c0_8] 119 ?_; intro gbz1 hg wz1 hbox hb; have BKz1 := Aside0.mk (hbox); have GWz1 := Aside0.mk (gX' hg (hX HB.out)); have GEz1 := Aside0.mk (gX' hg (hX HB.out)); replace HB := Aside0.mk (below_step (hX HB.out) hb); clear hb hbox hg) | (refine boxE 2 #[.int .i64 0, .int .i64 0, .int .i64 0, .int .i64 0, .int .i64 0, .int .i64 0, .int .i64 0, .int .i64 0, .slice none 0 0] 73 ?_; intro gbz2 hg wz2 hbox hb; have BKz2 := Aside0.mk (hbox); have GWz2 := Aside0.mk (gX' hg (hX HB.out)); have GEz2 := Aside0.mk (gX' hg (hX HB.out)); have NBz1 := Aside0.mk (gL hg (bX BKz1.out)); have NBz2 := Aside0.mk (gG hg (bX BKz1.out)); replace BKz1 := Aside0.mk (blk_below (bX BKz1.out) hb); replace HB := Aside0.mk (below_step (hX HB.out) hb); clear hb hbox hg) | (refine boxE 3 #[.int .i64 0, .int .i64 0, .int .i64 0, .int .i64 0, .int .i64 0, .int .i64 0, .int .i64 0, .int .i64 0, .slice none 0 0] 73 ?_; intro gbz3 hg wz3 hbox hb; have BKz3 := Aside0.mk (hbox); have GWz3 := Aside0.mk (gX' hg (hX HB.out)); have GEz3 := Aside0.mk (gX' hg (hX HB.out)); have NBz3 := Aside0.mk (gL hg (bX BKz1.out)); have NBz4 := Aside0.mk (gG hg (bX BKz1.out)); have NBz5 := Aside0.mk (gL hg (bX BKz2.out)); have NBz6 := Aside0.mk (gG hg (bX BKz2.out)); replace BKz1 := Aside0.mk (blk_below (bX BKz1.out) hb); replace BKz2 := Aside0.mk (blk_below (bX BKz2.out) hb); replace HB := Aside0.mk (below_step (hX HB.out) hb); clear hb hbox hg; have hnbz1 := NBz1.out; have hncz1 := NBz2.out; have hnbz2 := NBz3.out; have hncz2 := NBz4.out; obtain ⟨hczz1, hczz2, hczz3, hczz4, hczz5, hczz6, hczz7, hczz8, hczz9, hfzz1, hfzz2, hfzz3, hfzz4, hfzz5, hfzz6, hfzz7, hfzz8, hfzz9⟩ := cZ9 BKz1.out; have hnbz3 := NBz6.out; have hncz3 := NBz5.out; obtain ⟨hczz10, hczz11, hczz12, hczz13, hczz14, hczz15, hczz16, hczz17, hczz18, hfzz10, hfzz11, hfzz12, hfzz13, hfzz14, hfzz15, hfzz16, hfzz17, hfzz18⟩ := cZ9 BKz3.out) | (refine goesM 126 9 Tryz.func126 #[.agg #[.int .i64 a0_1, .int .i64 a0_2, .int .i64 a0_3]] ?_; refine (laws_toOp.calls a0_1 a0_2 a0_3 t104 t105 t106 _ A2.out).mono ?_; rintro e wz4 ⟨rfl, hb⟩; refine ⟨_, rfl, ?_⟩; replace BKz1 := Aside0.mk (blk_below (bF BKz1.out) hb); replace BKz2 := Aside0.mk (blk_below (bF BKz2.out) hb); replace BKz3 := Aside0.mk (blk_below (g := gbz3) (o := .cells #[.int .i64 a0_0, .int .i64 0, .int .i64 0, .int .i64 0, .int .i64 0, .int .i64 0, .int .i64 0, .int .i64 0, .slice none 0 0] 73 (0, 0)) (bP BKz3.out) hb); replace HB := Aside0.mk (below_step (hX HB.out) hb); clear hb; obtain ⟨hczz19, hczz20, hczz21, hczz22, hczz23, hczz24, hczz25, hczz26, hczz27, hfzz19, hfzz20, hfzz21, hfzz22, hfzz23, hfzz24, hfzz25, hfzz26, hfzz27⟩ := cZ9 BKz3.out; obtain ⟨hczz28, hczz29, hczz30, hczz31, hczz32, hczz33, hczz34, hczz35, hczz36, hfzz28, hfzz29, hfzz30, hfzz31, hfzz32, hfzz33, hfzz34, hfzz35, hfzz36⟩ := cZ9 BKz1.out) | (refine goesM 168 22 Tryz.func168 #[.agg #[.int .i64 a0_7, .slice A0_8 l0_8.length c0_8]] ?_; refine (laws_toRes.calls k a0_7 _ _ l0_8 t107 t108 _ (by exact Kd.C_below HR0_8.out (hX HB.out)) HC0_8.out A3.out).mono ?_; rintro e wz5 ⟨vz1, rfl, hoz1, hb⟩; refine ⟨_, rfl, ?_⟩; have HOz1 := Aside0.mk (Kd.R_lower hoz1 (below_size (hX HB.out))); replace BKz1 := Aside0.mk (blk_below (bF BKz1.out) hb); replace BKz2 := Aside0.mk (blk_below (bF BKz2.out) hb); replace BKz3 := Aside0.mk (blk_below (g := gbz3) (o := .cells #[.int .i64 a0_0, .int .i64 t104, .int .i64 t105, .int .i64 t106, .int .i64 a0_4, .int .i64 a0_5, .int .i64 a0_6, .int .i64 0, .slice none 0 0] 73 (0, 0)) (bP BKz3.out) hb); replace HB := Aside0.mk (below_step (hX HB.out) hb); clear hb hoz1; obtain ⟨hczz37, hczz38, hczz39, hczz40, hczz41, hczz42, hczz43, hczz44, hczz45, hfzz37, hfzz38, hfzz39, hfzz40, hfzz41, hfzz42, hfzz43, hfzz44, hfzz45⟩ := cZ9 BKz3.out; obtain ⟨Aoz1, coz1, eoz1⟩ := Kd.R_slice HOz1.out; subst eoz1; obtain ⟨hczz46, hczz47, hczz48, hczz49, hczz50, hczz51, hczz52, hczz53, hczz54, hfzz46, hfzz47, hfzz48, hfzz49, hfzz50, hfzz51, hfzz52, hfzz53, hfzz54⟩ := cZ9 BKz2.out))
  refine bodyPost_ret (results_cell_row rfl _ _ gbz2 73 #[.int .i64 a0_0, .int .i64 t104, .int .i64 t105, .int .i64 t106, .int .i64 a0_4, .int .i64 a0_5, .int .i64 a0_6, .int .i64 t107, .slice Aoz1 t108.length coz1] (0, 0) _ rfl (bP BKz2.out) Tryz.underlying73 rfl (by kernel_rfl)) rfl ?_
  exact ⟨_, rE, (rT (h := by exact Kd.R_mono (Kd.R_far (p := ⟨gbz2, 8, none⟩) (Kd.R_far (p := ⟨gbz2, 7, none⟩) (Kd.R_far (p := ⟨gbz2, 6, none⟩) (Kd.R_far (p := ⟨gbz2, 5, none⟩) (Kd.R_far (p := ⟨gbz2, 4, none⟩) (Kd.R_far (p := ⟨gbz2, 3, none⟩) (Kd.R_far (p := ⟨gbz2, 2, none⟩) (Kd.R_far (p := ⟨gbz2, 1, none⟩) (Kd.R_far (p := ⟨gbz2, 0, none⟩) (Kd.R_far (p := ⟨gbz3, 8, none⟩) (Kd.R_far (p := ⟨gbz3, 7, none⟩) (Kd.R_types (Kd.R_types HOz1.out BKz3.out (by decide)) BKz2.out (by decide)) (fun _ hk => hk.1.2) (.int .i64 t107)) (fun _ hk => hk.1.2) (.slice Aoz1 t108.length coz1)) (fun _ hk => hk.2) (.int .i64 a0_0)) (fun _ hk => hk.2) (.int .i64 t104)) (fun _ hk => hk.2) (.int .i64 t105)) (fun _ hk => hk.2) (.int .i64 t106)) (fun _ hk => hk.2) (.int .i64 a0_4)) (fun _ hk => hk.2) (.int .i64 a0_5)) (fun _ hk => hk.2) (.int .i64 a0_6)) (fun _ hk => hk.2) (.int .i64 t107)) (fun _ hk => hk.2) (.slice Aoz1 t108.length coz1)) (fun _ hk => trivial))), (hX HB.out)⟩
end Go.Proofs.YtmljebgideecjaaGreat.P
namespace Go.Proofs.YtmljebgideecjaaGreat.P
open Go.Proofs.YtmljebgideecjaaGreatZ Go.RowKit Go.Proofs.YtmljebgideecjaaGreatW.PrintWords Go.Proofs.YtmljebgideecjaaGreatW.PrintLast Go.Proofs.YtmljebgideecjaaGreatW.PrintMore
attribute [local go_sem] max2_int min2_int max_two min_two max_three min_three max_four min_four   -- for this text's walks alone
set_option linter.unusedVariables false
set_option linter.unusedSimpArgs false
def laws_toCallS.l0 : Nat → List (S119) → List (S73) → Int → Option ((List (S73)))
  | 0, _, _, _ => none
  | k + 1, x0, x3, x4 => if x4 < (x0.length : Int) then (if 0 ≤ x4 then ((laws_toCall.f k ((rd_T119 x0 x4).f0) ((rd_T119 x0 x4).f1.f0) ((rd_T119 x0 x4).f1.f1) ((rd_T119 x0 x4).f1.f2) ((rd_T119 x0 x4).f2) ((rd_T119 x0 x4).f3) ((rd_T119 x0 x4).f4) ((rd_T119 x0 x4).f5.f0) ((rd_T119 x0 x4).f5.f1)).bind fun bt105 => (if x4 < (x3.length : Int) then (laws_toCallS.l0 k x0 (x3.set (x4 : Int).toNat (⟨bt105.1, (⟨bt105.2.1, bt105.2.2.1, bt105.2.2.2.1⟩ : S69), bt105.2.2.2.2.1, bt105.2.2.2.2.2.1, bt105.2.2.2.2.2.2.1, (⟨bt105.2.2.2.2.2.2.2.1, bt105.2.2.2.2.2.2.2.2⟩ : S71)⟩ : S73)) (wrap64 (x4 + 1))) else (none))) else (none)) else (some x3)
def laws_toCallS.f (k : Nat) (l0 : List (S119)) : Option ((List (S73))) := if 0 ≤ (l0.length : Int) then (if ((l0.length : Int) : Int).toNat ≤ 3198579280802 then (laws_toCallS.l0 k l0 (List.replicate ((l0.length : Int) : Int).toNat z73) 0) else (none)) else (none)
set_option maxHeartbeats 8000000 in
set_option maxRecDepth 100000 in
theorem laws_toCallS.calls (k : Nat) (A0 : Option Addr) (c0 : Nat) (l0 : List (S119)) (r : List (S73)) (w : World) (hr0 : Kd.C k119 w A0 l0.length l0) (hc0 : l0.length ≤ c0) (h : laws_toCallS.f k l0 = some r) :
    Calls Tryz.prog 46 #[.slice A0 l0.length c0] w fun e w' => ∃ v0_ : Value, e = .returned (v0_) ∧ Kd.S k73 73 w' w.heap.size (fun _ => True) v0_ r ∧ Below w.heap.size w w' := by
  have hu119 := Tryz.underlying119
  have hu73 := Tryz.underlying73
  have HR0 := Aside0.mk hr0
  have HC0 := Aside0.mk hc0
  clear hr0 hc0
  have HB := Aside0.mk (Below.refl w.heap.size w)
  have H := h
  unfold laws_toCallS.f at H
  clear h
  replace H := ifP H; obtain ⟨c2, H⟩ := H
  have c2b0 := eq_true c2
  have c2b1 := decide_eq_true c2
  clear c2
  replace H := ifP H; obtain ⟨c3, H⟩ := H
  have c3b0 := eq_true c3
  have c3b1 := decide_eq_true c3
  clear c3
  obtain ⟨y101, hy101⟩ : ∃ y_ : List (S73), y_ = (List.replicate ((l0.length : Int) : Int).toNat z73) := ⟨_, rfl⟩
  replace H : (laws_toCallS.l0 k l0 y101 0) = some r := yH H hy101
  have Ny101 := Aside0.mk hy101
  clear hy101
  have H' := Aside0.mk H
  clear H
  go_enter Tryz.func46, Tryz.ntmps46
  go_wp2_with (first | ((with_reducible refine gate_dst (N := 7) rfl ?_); refine Kd.S_make k73 _ 73 rfl (N := 7) rfl 40 _ _ rfl (l0.length : Int) rfl rfl Tryz.underlying40 (.agg #[(.int .i64 0), (.int .i64 0), (.int .i64 0), (.int .i64 0), (.int .i64 0), (.int .i64 0), (.int .i64 0), (.int .i64 0), (.slice none 0 0)]) 88 info73 rfl (by decide) (by omega) z73 (ok := fun _ => True) (okp := fun _ => True) (k73_mkM _ _ _ z73 (Kd.R_nil _ _ _ _ _)) (fun _ hk => hk) trivial (of_decide_eq_true (by first | (with_reducible assumption) | assumption)) (Nat.le_trans (Nat.mul_le_mul_right _ (of_decide_eq_true (by first | (with_reducible assumption) | assumption) : (l0.length : Int).toNat ≤ 3198579280802)) (by omega)) (Below.refl _ _) (Nat.le_refl _) ?_; intro vz1 wz1 hoz1 hb hg_ hnew_; clear hg_ hnew_; (first | rw [← Ny101.out] at hoz1 | (simp only [Int.reduceToNat] at hoz1; rw [← Ny101.out] at hoz1)); have HOz1 := Aside0.mk (Kd.S_lower hoz1 (below_size (hX HB.out))); replace HB := Aside0.mk (below_step (hX HB.out) hb); clear hb hoz1))
  go_loopg [4] k (fun kq v4 w' => ∃ (x3_1 : List (S73)) (x4_1 : Int), v4 = .int .i64 x4_1 ∧ Aside0 (laws_toCallS.l0 kq l0 x3_1 x4_1 = some r) ∧ Aside0 (kq ≤ k) ∧ Aside0 (Kd.S k73 73 w' w.heap.size (fun _ => True) vz1 x3_1) ∧ Aside0 (Below w.heap.size w w'))
  case atStart => exact ⟨(y101), (0), rS, H', ⟨Nat.le_refl _⟩, ⟨(sX HOz1.out)⟩, ⟨(hX HB.out)⟩⟩
  case round =>
    clear H'
    try clear c2
    try clear c2b0
    try clear c2b1
    try clear p2
    try clear c3
    try clear c3b0
    try clear c3b1
    try clear c4
    obtain ⟨x3_1, x4_1, rfl, HA, HKy1, HO_y1, HB⟩ := hrel
    cases gk with
    | zero => exact absurd HA.out (by simp [laws_toCallS.l0])
    | succ k1 =>
      have H := HA.out
      clear HA
      simp only [laws_toCallS.l0] at H
      by_cases c6 : x4_1 < (l0.length : Int)
      · rw [if_pos c6] at H
        have c6b0 := decide_eq_true c6
        clear c6
        replace H := ifP H; obtain ⟨c7, H⟩ := H
        have c7b0 := decide_eq_true c7
        clear c7
        replace H := bE H; obtain ⟨⟨t105, t106, t107, t108, t109, t110, t111, t112, t113⟩, A8, H⟩ := H
        try dsimp only at H
        replace H := ifP H; obtain ⟨c9, H⟩ := H
        have c9b0 := decide_eq_true c9
        clear c9
        obtain ⟨y116, hy116⟩ : ∃ y_ : List (S73), y_ = (x3_1.set (x4_1 : Int).toNat (⟨t105, (⟨t106, t107, t108⟩ : S69), t109, t110, t111, (⟨t112, t113⟩ : S71)⟩ : S73)) := ⟨_, rfl⟩
        replace H : (laws_toCallS.l0 k1 l0 y116 (wrap64 (x4_1 + 1))) = some r := yH H hy116
        have Ny116 := Aside0.mk hy116
        clear hy116
        have H' := Aside0.mk H
        clear H
        have px1 : 0 ≤ (x4_1 : Int) := of_decide_eq_true (by first | (with_reducible assumption) | assumption)
        have qx1 : x4_1 < (l0.length : Int) := of_decide_eq_true (by first | (with_reducible assumption) | assumption)
        obtain ⟨adx1, Ax1, cx1, ex1, hxx1, hxx2, hxx3, hxx4, hxx5, hxx6, hxx7, hxx8, hxx9, hlx1, hix1⟩ := at_T119 HR0.out x4_1 px1 qx1
        cases ex1
        replace hxx1 := (HB.out.cell (World.block_lt_of_cell? w _ hxx1)).trans hxx1
        replace hxx2 := (HB.out.cell (World.block_lt_of_cell? w _ hxx2)).trans hxx2
        replace hxx3 := (HB.out.cell (World.block_lt_of_cell? w _ hxx3)).trans hxx3
        replace hxx4 := (HB.out.cell (World.block_lt_of_cell? w _ hxx4)).trans hxx4
        replace hxx5 := (HB.out.cell (World.block_lt_of_cell? w _ hxx5)).trans hxx5
        replace hxx6 := (HB.out.cell (World.block_lt_of_cell? w _ hxx6)).trans hxx6
        replace hxx7 := (HB.out.cell (World.block_lt_of_cell? w _ hxx7)).trans hxx7
        replace hxx8 := (HB.out.cell (World.block_lt_of_cell? w _ hxx8)).trans hxx8
        replace hxx9 := (HB.out.cell (World.block_lt_of_cell? w _ hxx9)).trans hxx9
        have HRx1 := Aside0.mk hix1
        have HCx1 := Aside0.mk hlx1
        clear hix1 hlx1
        replace px1 := eq_true px1
        replace qx1 := eq_true qx1
        go_wp2_with (first | (refine goesM 100 20 Tryz.func100 #[.agg #[.int .i64 ((rd_T119 l0 x4_1).f0), .int .i64 ((rd_T119 l0 x4_1).f1.f0), .int .i64 ((rd_T119 l0 x4_1).f1.f1), .int .i64 ((rd_T119 l0 x4_1).f1.f2), .int .i64 ((rd_T119 l0 x4_1).f2), .int .i64 ((rd_T119 l0 x4_1).f3), .int .i64 ((rd_T119 l0 x4_1).f4), .int .i64 ((rd_T119 l0 x4_1).f5.f0), .slice Ax1 ((rd_T119 l0 x4_1).f5.f1).length cx1]] ?_; refine (laws_toCall.calls k1 ((rd_T119 l0 x4_1).f0) ((rd_T119 l0 x4_1).f1.f0) ((rd_T119 l0 x4_1).f1.f1) ((rd_T119 l0 x4_1).f1.f2) ((rd_T119 l0 x4_1).f2) ((rd_T119 l0 x4_1).f3) ((rd_T119 l0 x4_1).f4) ((rd_T119 l0 x4_1).f5.f0) _ _ ((rd_T119 l0 x4_1).f5.f1) t105 t106 t107 t108 t109 t110 t111 t112 t113 _ (cC HRx1.out HB.out) HCx1.out A8.out).mono ?_; rintro e wx1 ⟨vx1, rfl, hox1, hb⟩; refine ⟨_, rfl, ?_⟩; have HOx1 := Aside0.mk (Kd.R_lower hox1 (below_size (hX HB.out))); replace HO_y1 := Aside0.mk (Kd.S_elder' (sX HO_y1.out) (Kd.R_base hox1) hb); replace HB := Aside0.mk (below_step (hX HB.out) hb); clear hb hox1; have px2 : 0 ≤ (x4_1 : Int) := of_decide_eq_true (by first | (with_reducible assumption) | assumption); have qx2 : (x4_1 : Int) < ((x3_1.length : Int) : Int) := of_decide_eq_true (by first | (with_reducible assumption) | assumption); obtain ⟨gox1, cox1, eox1, gbx1, glx1, clx1, HGx1⟩ := Kd.S_form HO_y1.out (by omega); (first | cases eox1 | (injection eox1 with ea_ en_ ec_; (first | subst ea_ | (injection ea_ with ea_; subst ea_)); subst ec_; clear en_)); have GBx1 := Aside0.mk gbx1; have GGx1 := Aside0.mk HGx1; clear gbx1 glx1 HGx1; obtain ⟨_, cex1, hclx1, hMx1, hccx1, hfrx1, _, _⟩ := Kd.S_elem HO_y1.out z73 (x4_1 : Int) px2 qx2; obtain ⟨vex1, rfl, gex1⟩ := k73_openM hMx1; have hxx10 : wx1.cell? ⟨gox1, (x4_1 : Int).toNat * 9, none⟩ = some (.int .i64 ((rd_T73 x3_1 x4_1).f0)) := hccx1 0 _ rfl; have hxx11 : wx1.cell? ⟨gox1, (x4_1 : Int).toNat * 9 + 1, none⟩ = some (.int .i64 ((rd_T73 x3_1 x4_1).f1.f0)) := hccx1 1 _ rfl; have hxx12 : wx1.cell? ⟨gox1, (x4_1 : Int).toNat * 9 + 2, none⟩ = some (.int .i64 ((rd_T73 x3_1 x4_1).f1.f1)) := hccx1 2 _ rfl; have hxx13 : wx1.cell? ⟨gox1, (x4_1 : Int).toNat * 9 + 3, none⟩ = some (.int .i64 ((rd_T73 x3_1 x4_1).f1.f2)) := hccx1 3 _ rfl; have hxx14 : wx1.cell? ⟨gox1, (x4_1 : Int).toNat * 9 + 4, none⟩ = some (.int .i64 ((rd_T73 x3_1 x4_1).f2)) := hccx1 4 _ rfl; have hxx15 : wx1.cell? ⟨gox1, (x4_1 : Int).toNat * 9 + 5, none⟩ = some (.int .i64 ((rd_T73 x3_1 x4_1).f3)) := hccx1 5 _ rfl; have hxx16 : wx1.cell? ⟨gox1, (x4_1 : Int).toNat * 9 + 6, none⟩ = some (.int .i64 ((rd_T73 x3_1 x4_1).f4)) := hccx1 6 _ rfl; have hxx17 : wx1.cell? ⟨gox1, (x4_1 : Int).toNat * 9 + 7, none⟩ = some (.int .i64 ((rd_T73 x3_1 x4_1).f5.f0)) := hccx1 7 _ rfl; have hxx18 : wx1.cell? ⟨gox1, (x4_1 : Int).toNat * 9 + 8, none⟩ = some (vex1) := hccx1 8 _ rfl; have hfx1 : wx1.frozen? ⟨gox1, (x4_1 : Int).toNat * 9, none⟩ = false := hfrx1 0; have hfx2 : wx1.frozen? ⟨gox1, (x4_1 : Int).toNat * 9 + 1, none⟩ = false := hfrx1 1; have hfx3 : wx1.frozen? ⟨gox1, (x4_1 : Int).toNat * 9 + 2, none⟩ = false := hfrx1 2; have hfx4 : wx1.frozen? ⟨gox1, (x4_1 : Int).toNat * 9 + 3, none⟩ = false := hfrx1 3; have hfx5 : wx1.frozen? ⟨gox1, (x4_1 : Int).toNat * 9 + 4, none⟩ = false := hfrx1 4; have hfx6 : wx1.frozen? ⟨gox1, (x4_1 : Int).toNat * 9 + 5, none⟩ = false := hfrx1 5; have hfx7 : wx1.frozen? ⟨gox1, (x4_1 : Int).toNat * 9 + 6, none⟩ = false := hfrx1 6; have hfx8 : wx1.frozen? ⟨gox1, (x4_1 : Int).toNat * 9 + 7, none⟩ = false := hfrx1 7; have hfx9 : wx1.frozen? ⟨gox1, (x4_1 : Int).toNat * 9 + 8, none⟩ = false := hfrx1 8; clear hclx1 hccx1 hfrx1 hMx1; replace px2 := eq_true px2; replace qx2 := eq_true qx2; obtain ⟨Aox1, cox2, eox2⟩ := Kd.R_slice HOx1.out; subst eox2; have n_ := Aside0.mk (Kd.S_mono (ok' := (fun k_ => some k_ ≠ (.slice Aox1 t113.length cox2 : Value).ownBlock)) HO_y1.out (fun k_ hk => hk.2)); clear HO_y1; have HO_y1 := n_; clear n_; have HXx1 := Aside0.mk (show Kd.S k73 73 wx1 w.heap.size (fun k_ => ((fun _ => True)) k_ ∧ ¬ ((fun k_ => some k_ = (.slice Aox1 t113.length cox2 : Value).ownBlock)) k_) (.slice (some ⟨gox1, 0, none⟩) x3_1.length cox1) x3_1 from (by (with_reducible repeat (first | apply Kd.S_alloc | apply Kd.S_drewN | apply Kd.S_drew)); exact Kd.S_mono HO_y1.out (fun k_ hk => ⟨trivial, fun e_ => hk e_⟩))); obtain ⟨okix1, cex2, hclx2, hMx2, hccx2, hfrx2, hokix1, hHx1⟩ := Kd.S_elem HXx1.out z73 (x4_1 : Int) (of_decide_eq_true (by first | (with_reducible assumption) | assumption)) (by have h_ : (x4_1 : Int) < ((x3_1.length : Int) : Int) := of_decide_eq_true (by first | (with_reducible assumption) | assumption); first | exact h_ | (have e_ := (Kd.S_reads' HO_y1.out).1; omega) | simpa using h_); obtain ⟨vex2, rfl, gex2⟩ := k73_openM hMx2; have HPx1 := Kd.S_seg hHx1 (of_decide_eq_true (by first | (with_reducible assumption) | assumption)) (by have h_ : (x4_1 : Int) < ((x3_1.length : Int) : Int) := of_decide_eq_true (by first | (with_reducible assumption) | assumption); first | exact h_ | (have e_ := (Kd.S_reads' HO_y1.out).1; omega) | simpa using h_) (seg := [.int .i64 t105, .int .i64 t106, .int .i64 t107, .int .i64 t108, .int .i64 t109, .int .i64 t110, .int .i64 t111, .int .i64 t112, .slice Aox1 t113.length cox2]) (j := 0) (show 9 ≤ 9 from by decide) (x' := (⟨t105, (⟨t106, t107, t108⟩ : S69), t109, t110, t111, (⟨t112, t113⟩ : S71)⟩ : S73)) (k73_mkM _ _ _ (⟨t105, (⟨t106, t107, t108⟩ : S69), t109, t110, t111, (⟨t112, t113⟩ : S71)⟩ : S73) (Kd.R_mono (Kd.R_tight rfl (Kd.R_mono (ok' := fun k_ => ((fun _ => True)) k_ ∧ k_ ≠ gox1) (Kd.R_apart' (HOx1.out) (Kd.S_typed HO_y1.out) (by decide)) (fun k_ hk => ⟨trivial, fun e_ => (hk.2) (by rw [e_]; rfl)⟩))) (fun _ h_ => Or.inr (h_)))) (fun _ hk => hk) (fun k_ hk_ => ((Kd.R_mono (ok' := fun k_ => ((fun _ => True)) k_ ∧ k_ ≠ gox1) (Kd.R_apart' (HOx1.out) (Kd.S_typed HO_y1.out) (by decide)) (fun k_ hk => ⟨trivial, fun e_ => (hk.2) (by rw [e_]; rfl)⟩))).1 k_ hk_.symm); have hxx19 := hccx2 0 _ rfl; (try simp only [show (k73).sz = 9 from rfl, Nat.mul_one, Nat.add_zero] at hxx19); have hfx10 := hfrx2 0; (try simp only [show (k73).sz = 9 from rfl, Nat.mul_one, Nat.add_zero] at hfx10); have hxx20 := hccx2 1 _ rfl; (try simp only [show (k73).sz = 9 from rfl, Nat.mul_one, Nat.add_zero] at hxx20); have hfx11 := hfrx2 1; (try simp only [show (k73).sz = 9 from rfl, Nat.mul_one, Nat.add_zero] at hfx11); have hxx21 := hccx2 2 _ rfl; (try simp only [show (k73).sz = 9 from rfl, Nat.mul_one, Nat.add_zero] at hxx21); have hfx12 := hfrx2 2; (try simp only [show (k73).sz = 9 from rfl, Nat.mul_one, Nat.add_zero] at hfx12); have hxx22 := hccx2 3 _ rfl; (try simp only [show (k73).sz = 9 from rfl, Nat.mul_one, Nat.add_zero] at hxx22); have hfx13 := hfrx2 3; (try simp only [show (k73).sz = 9 from rfl, Nat.mul_one, Nat.add_zero] at hfx13); have hxx23 := hccx2 4 _ rfl; (try simp only [show (k73).sz = 9 from rfl, Nat.mul_one, Nat.add_zero] at hxx23); have hfx14 := hfrx2 4; (try simp only [show (k73).sz = 9 from rfl, Nat.mul_one, Nat.add_zero] at hfx14); have hxx24 := hccx2 5 _ rfl; (try simp only [show (k73).sz = 9 from rfl, Nat.mul_one, Nat.add_zero] at hxx24); have hfx15 := hfrx2 5; (try simp only [show (k73).sz = 9 from rfl, Nat.mul_one, Nat.add_zero] at hfx15); have hxx25 := hccx2 6 _ rfl; (try simp only [show (k73).sz = 9 from rfl, Nat.mul_one, Nat.add_zero] at hxx25); have hfx16 := hfrx2 6; (try simp only [show (k73).sz = 9 from rfl, Nat.mul_one, Nat.add_zero] at hfx16); have hxx26 := hccx2 7 _ rfl; (try simp only [show (k73).sz = 9 from rfl, Nat.mul_one, Nat.add_zero] at hxx26); have hfx17 := hfrx2 7; (try simp only [show (k73).sz = 9 from rfl, Nat.mul_one, Nat.add_zero] at hfx17); have hxx27 := hccx2 8 _ rfl; (try simp only [show (k73).sz = 9 from rfl, Nat.mul_one, Nat.add_zero] at hxx27); have hfx18 := hfrx2 8; (try simp only [show (k73).sz = 9 from rfl, Nat.mul_one, Nat.add_zero] at hfx18); clear hclx2 hccx2 hfrx2 hMx2 hokix1 hHx1) | ((with_reducible refine gate_store (t := 73) (p := 21) rfl ?_); refine store_event (t := 73) (p := 21) (v := ?vo_wx2) (w1 := (((((((((wx1.setCell ⟨gox1, (x4_1 : Int).toNat * 9, none⟩ (.int .i64 t105)).setCell ⟨gox1, (x4_1 : Int).toNat * 9 + 1, none⟩ (.int .i64 t106)).setCell ⟨gox1, (x4_1 : Int).toNat * 9 + 2, none⟩ (.int .i64 t107)).setCell ⟨gox1, (x4_1 : Int).toNat * 9 + 3, none⟩ (.int .i64 t108)).setCell ⟨gox1, (x4_1 : Int).toNat * 9 + 4, none⟩ (.int .i64 t109)).setCell ⟨gox1, (x4_1 : Int).toNat * 9 + 5, none⟩ (.int .i64 t110)).setCell ⟨gox1, (x4_1 : Int).toNat * 9 + 6, none⟩ (.int .i64 t111)).setCell ⟨gox1, (x4_1 : Int).toNat * 9 + 7, none⟩ (.int .i64 t112)).setCell ⟨gox1, (x4_1 : Int).toNat * 9 + 8, none⟩ (.slice Aox1 t113.length cox2))) ?hg ?ho ?hn ?hr ?_; (case ho => rfl); (case hg => rfl); (case hn => rfl); (case hr => first | (go_simp; done) | (go_simp; rfl)); intro wx2 hw; have hg : wx1.grownBy wx2 (some gox1) := (by rw [hw]; exact HPx1.2); have hp_ : Kd.S k73 73 wx2 w.heap.size (fun _ => True) (.slice (some ⟨gox1, 0, none⟩) x3_1.length cox1) y116 := (by rw [hw, Ny116.out]; exact HPx1.1); clear HPx1; replace HO_y1 := Aside0.mk (hp_); replace HB := Aside0.mk ((by rw [hw]; exact below_set (below_set (below_set (below_set (below_set (below_set (below_set (below_set (below_set (HB.out) GBx1.out) GBx1.out) GBx1.out) GBx1.out) GBx1.out) GBx1.out) GBx1.out) GBx1.out) GBx1.out : Below w.heap.size w wx2)); clear HOx1; clear hg hw hp_))
        go_roundg k1
        case measure => have := HKy1.out; omega
        case rel => exact ⟨(y116), (wrap64 (x4_1 + 1)), rS, H', ⟨by have := HKy1.out; omega⟩, ⟨(sX HO_y1.out)⟩, ⟨(hX HB.out)⟩⟩
      · rw [if_neg c6] at H
        have c6b0 := decide_eq_false c6
        clear c6
        obtain rfl := Option.some.inj H
        go_wp2
        go_ret
        exact ⟨_, rE, (sX HO_y1.out), (hX HB.out)⟩
end Go.Proofs.YtmljebgideecjaaGreat.P
namespace Go.Proofs.YtmljebgideecjaaGreat.P
open Go.Proofs.YtmljebgideecjaaGreatZ Go.RowKit Go.Proofs.YtmljebgideecjaaGreatW.PrintWords Go.Proofs.YtmljebgideecjaaGreatW.PrintLast Go.Proofs.YtmljebgideecjaaGreatW.PrintMore
attribute [local go_sem] max2_int min2_int max_two min_two max_three min_three max_four min_four   -- for this text's walks alone
set_option linter.unusedVariables false
set_option linter.unusedSimpArgs false
def laws_toMachine.f (k : Nat) (l0_0 : List (S176)) (l0_1 : List (S155)) (l0_2 : List (S114)) (a0_3 : Int) (l0_4 : List (S119)) (l0_5 : List Int) (l0_6 : List Int) (a0_7 : Int) : Option ((List (S140)) × (List (S162)) × (List (S97)) × Int × (List (S73)) × List Int × List Int × Int) := (laws_toMem.f k l0_0 l0_1).bind fun bt104 => ((laws_toThreadS.f k l0_2).bind fun t110 => ((laws_toCallS.f k l0_4).bind fun t113 => ((laws_toIntS.f k l0_5).bind fun t116 => ((laws_toRows.f k l0_6 a0_7).bind fun bt119 => (some (bt104.1, bt104.2, t110, a0_3, t113, t116, bt119.1, bt119.2))))))
set_option maxHeartbeats 8000000 in
set_option maxRecDepth 100000 in
theorem laws_toMachine.calls (k : Nat) (A0_0 : Option Addr) (c0_0 : Nat) (l0_0 : List (S176)) (A0_1 : Option Addr) (c0_1 : Nat) (l0_1 : List (S155)) (A0_2 : Option Addr) (c0_2 : Nat) (l0_2 : List (S114)) (a0_3 : Int) (A0_4 : Option Addr) (c0_4 : Nat) (l0_4 : List (S119)) (A0_5 : Option Addr) (c0_5 : Nat) (l0_5 : List Int) (A0_6 : Option Addr) (c0_6 : Nat) (l0_6 : List Int) (a0_7 : Int) (r1 : List (S140)) (r2 : List (S162)) (r3 : List (S97)) (r4 : Int) (r5 : List (S73)) (r6 : List Int) (r7 : List Int) (r8 : Int) (w : World) (hr0_0 : Kd.C k176 w A0_0 l0_0.length l0_0) (hc0_0 : l0_0.length ≤ c0_0) (hr0_1 : Kd.C k155 w A0_1 l0_1.length l0_1) (hc0_1 : l0_1.length ≤ c0_1) (hr0_2 : Kd.C k114 w A0_2 l0_2.length l0_2) (hc0_2 : l0_2.length ≤ c0_2) (hr0_4 : Kd.C k119 w A0_4 l0_4.length l0_4) (hc0_4 : l0_4.length ≤ c0_4) (hr0_5 : Kd.C (Kd.int .i64) w A0_5 l0_5.length l0_5) (hc0_5 : l0_5.length ≤ c0_5) (hr0_6 : Kd.C (Kd.int .i64) w A0_6 l0_6.length l0_6) (hc0_6 : l0_6.length ≤ c0_6) (h : laws_toMachine.f k l0_0 l0_1 l0_2 a0_3 l0_4 l0_5 l0_6 a0_7 = some (r1, r2, r3, r4, r5, r6, r7, r8)) :
    Calls Tryz.prog 12 #[.agg #[.slice A0_0 l0_0.length c0_0, .slice A0_1 l0_1.length c0_1, .slice A0_2 l0_2.length c0_2, .int .i64 a0_3, .slice A0_4 l0_4.length c0_4, .slice A0_5 l0_5.length c0_5, .slice A0_6 l0_6.length c0_6, .int .i64 a0_7]] w fun e w' => ∃ v0_ v1_ v2_ v4_ v5_ v6_ : Value, e = .returned (.agg #[v0_, v1_, v2_, .int .i64 r4, v4_, v5_, v6_, .int .i64 r8]) ∧ Kd.R k140 140 w' w.heap.size (fun _ => True) v0_ r1 ∧ Kd.S k162 162 w' w.heap.size (fun k_ => some k_ ≠ (v5_ : Value).ownBlock ∧ some k_ ≠ (v6_ : Value).ownBlock) v1_ r2 ∧ Kd.S k97 97 w' w.heap.size (fun _ => True) v2_ r3 ∧ Kd.S k73 73 w' w.heap.size (fun k_ => some k_ ≠ (v5_ : Value).ownBlock ∧ some k_ ≠ (v6_ : Value).ownBlock) v4_ r5 ∧ Kd.R (Kd.int .i64) 3 w' w.heap.size (fun k_ => some k_ ≠ (v6_ : Value).ownBlock) v5_ r6 ∧ Kd.R (Kd.int .i64) 3 w' w.heap.size (fun k_ => some k_ ≠ (v5_ : Value).ownBlock) v6_ r7 ∧ Below w.heap.size w w' := by
  have hu32 := Tryz.underlying32
  have hu43 := Tryz.underlying43
  have hu25 := Tryz.underlying25
  have hu38 := Tryz.underlying38
  have hu30 := Tryz.underlying30
  have hu41 := Tryz.underlying41
  have HR0_0 := Aside0.mk hr0_0
  have HC0_0 := Aside0.mk hc0_0
  clear hr0_0 hc0_0
  have HR0_1 := Aside0.mk hr0_1
  have HC0_1 := Aside0.mk hc0_1
  clear hr0_1 hc0_1
  have HR0_2 := Aside0.mk hr0_2
  have HC0_2 := Aside0.mk hc0_2
  clear hr0_2 hc0_2
  have HR0_4 := Aside0.mk hr0_4
  have HC0_4 := Aside0.mk hc0_4
  clear hr0_4 hc0_4
  have HR0_5 := Aside0.mk hr0_5
  have HC0_5 := Aside0.mk hc0_5
  clear hr0_5 hc0_5
  have HR0_6 := Aside0.mk hr0_6
  have HC0_6 := Aside0.mk hc0_6
  clear hr0_6 hc0_6
  have HB := Aside0.mk (Below.refl w.heap.size w)
  have H := h
  unfold laws_toMachine.f at H
  clear h
  replace H := bE H; obtain ⟨⟨t104, t107⟩, A2, H⟩ := H
  try dsimp only at H
  replace H := bE H; obtain ⟨t110, A3, H⟩ := H
  replace H := bE H; obtain ⟨t113, A4, H⟩ := H
  replace H := bE H; obtain ⟨t116, A5, H⟩ := H
  replace H := bE H; obtain ⟨⟨t119, t122⟩, A6, H⟩ := H
  try dsimp only at H
  simp only [Option.some.injEq, Prod.mk.injEq] at H
  obtain ⟨rfl, rfl, rfl, rfl, rfl, rfl, rfl, rfl⟩ := H
  go_enter Tryz.func12, Tryz.ntmps12
  go_wp2_with (first | (refine boxE 1 #[.slice A0_0 l0_0.length c0_0, .slice A0_1 l0_1.length c0_1, .slice A0_2 l0_2.length c0_2, .int .i64 a0_3, .slice A0_4 l0_4.length c0_4, .slice A0_5 l0_5.length c0_5, .slice A0_6 l0_6.length c0_6, .int .i64 a0_7] 32 ?_; intro gbz1 hg wz1 hbox hb; have BKz1 := Aside0.mk (hbox); have GWz1 := Aside0.mk (gX' hg (hX HB.out)); have GEz1 := Aside0.mk (gX' hg (hX HB.out)); replace HB := Aside0.mk (below_step (hX HB.out) hb); clear hb hbox hg) | (refine boxE 2 #[.slice none 0 0, .slice none 0 0, .slice none 0 0, .int .i64 0, .slice none 0 0, .slice none 0 0, .slice none 0 0, .int .i64 0] 43 ?_; intro gbz2 hg wz2 hbox hb; have BKz2 := Aside0.mk (hbox); have GWz2 := Aside0.mk (gX' hg (hX HB.out)); have GEz2 := Aside0.mk (gX' hg (hX HB.out)); have NBz1 := Aside0.mk (gL hg (bX BKz1.out)); have NBz2 := Aside0.mk (gG hg (bX BKz1.out)); replace BKz1 := Aside0.mk (blk_below (bX BKz1.out) hb); replace HB := Aside0.mk (below_step (hX HB.out) hb); clear hb hbox hg) | (refine boxE 3 #[.slice none 0 0, .slice none 0 0, .slice none 0 0, .int .i64 0, .slice none 0 0, .slice none 0 0, .slice none 0 0, .int .i64 0] 43 ?_; intro gbz3 hg wz3 hbox hb; have BKz3 := Aside0.mk (hbox); have GWz3 := Aside0.mk (gX' hg (hX HB.out)); have GEz3 := Aside0.mk (gX' hg (hX HB.out)); have NBz3 := Aside0.mk (gL hg (bX BKz1.out)); have NBz4 := Aside0.mk (gG hg (bX BKz1.out)); have NBz5 := Aside0.mk (gL hg (bX BKz2.out)); have NBz6 := Aside0.mk (gG hg (bX BKz2.out)); replace BKz1 := Aside0.mk (blk_below (bX BKz1.out) hb); replace BKz2 := Aside0.mk (blk_below (bX BKz2.out) hb); replace HB := Aside0.mk (below_step (hX HB.out) hb); clear hb hbox hg; have hnbz1 := NBz1.out; have hncz1 := NBz2.out; have hnbz2 := NBz3.out; have hncz2 := NBz4.out; obtain ⟨hczz1, hczz2, hczz3, hczz4, hczz5, hczz6, hczz7, hczz8, hfzz1, hfzz2, hfzz3, hfzz4, hfzz5, hfzz6, hfzz7, hfzz8⟩ := cZ8 BKz1.out) | (refine goesM 44 6 Tryz.func44 #[.agg #[.slice A0_0 l0_0.length c0_0, .slice A0_1 l0_1.length c0_1]] ?_; refine (laws_toMem.calls k _ _ l0_0 _ _ l0_1 t104 t107 _ (cC HR0_0.out HB.out) HC0_0.out (cC HR0_1.out HB.out) HC0_1.out A2.out).mono ?_; rintro e wz4 ⟨vz1, vz2, rfl, hoz1, hoz2, hb⟩; refine ⟨_, rfl, ?_⟩; have HOz1 := Aside0.mk (Kd.R_lower hoz1 (below_size (hX HB.out))); have HOz2 := Aside0.mk (Kd.S_lower hoz2 (below_size (hX HB.out))); replace BKz1 := Aside0.mk (blk_below (bX BKz1.out) hb); replace BKz2 := Aside0.mk (blk_below (bX BKz2.out) hb); replace BKz3 := Aside0.mk (blk_below (bX BKz3.out) hb); replace HB := Aside0.mk (below_step (hX HB.out) hb); clear hb hoz1 hoz2; obtain ⟨Aoz1, coz1, eoz1⟩ := Kd.R_slice HOz1.out; subst eoz1; have hnbz3 := NBz6.out; have hncz3 := NBz5.out; obtain ⟨hczz9, hczz10, hczz11, hczz12, hczz13, hczz14, hczz15, hczz16, hfzz9, hfzz10, hfzz11, hfzz12, hfzz13, hfzz14, hfzz15, hfzz16⟩ := cZ8 BKz3.out; obtain ⟨Aoz2, coz2, eoz2⟩ := Kd.S_slice HOz2.out; subst eoz2; obtain ⟨hczz17, hczz18, hczz19, hczz20, hczz21, hczz22, hczz23, hczz24, hfzz17, hfzz18, hfzz19, hfzz20, hfzz21, hfzz22, hfzz23, hfzz24⟩ := cZ8 BKz1.out) | (refine goesM 45 10 Tryz.func45 #[.slice A0_2 l0_2.length c0_2] ?_; refine (laws_toThreadS.calls k _ _ l0_2 t110 _ (by exact Kd.C_below HR0_2.out (hX HB.out)) HC0_2.out A3.out).mono ?_; rintro e wz5 ⟨vz3, rfl, hoz1, hb⟩; refine ⟨_, rfl, ?_⟩; have HOz3 := Aside0.mk (Kd.S_lower hoz1 (below_size (hX HB.out))); replace HOz1 := Aside0.mk (Kd.R_below (rT (h := by exact (Kd.R_mono (Kd.R_far (p := ⟨gbz3, 1, none⟩) (Kd.R_far (p := ⟨gbz3, 0, none⟩) (Kd.R_types HOz1.out BKz3.out (by decide)) (fun _ hk => hk.2) (.slice Aoz1 t104.length coz1)) (fun _ hk => hk.2) (.slice Aoz2 t107.length coz2)) (fun _ h_ => h_.1)))) hb); replace HOz2 := Aside0.mk (Kd.S_below (by (with_reducible repeat (first | apply Kd.S_alloc | apply Kd.S_drewN | apply Kd.S_drew)); exact (Kd.S_mono (Kd.S_far (p := ⟨gbz3, 1, none⟩) (Kd.S_far (p := ⟨gbz3, 0, none⟩) (Kd.S_types HOz2.out BKz3.out (by decide)) (fun _ hk => hk.2) (.slice Aoz1 t104.length coz1)) (fun _ hk => hk.2) (.slice Aoz2 t107.length coz2)) (fun _ h_ => h_.1))) hb); replace BKz1 := Aside0.mk (blk_below (bF BKz1.out) hb); replace BKz2 := Aside0.mk (blk_below (bF BKz2.out) hb); replace BKz3 := Aside0.mk (blk_below (g := gbz3) (o := .cells #[.slice Aoz1 t104.length coz1, .slice Aoz2 t107.length coz2, .slice none 0 0, .int .i64 0, .slice none 0 0, .slice none 0 0, .slice none 0 0, .int .i64 0] 43 (0, 0)) (bP BKz3.out) hb); replace HB := Aside0.mk (below_step (hX HB.out) hb); clear hb hoz1; obtain ⟨Aoz3, coz3, eoz3⟩ := Kd.S_slice HOz3.out; subst eoz3; obtain ⟨hczz25, hczz26, hczz27, hczz28, hczz29, hczz30, hczz31, hczz32, hfzz25, hfzz26, hfzz27, hfzz28, hfzz29, hfzz30, hfzz31, hfzz32⟩ := cZ8 BKz3.out; obtain ⟨hczz33, hczz34, hczz35, hczz36, hczz37, hczz38, hczz39, hczz40, hfzz33, hfzz34, hfzz35, hfzz36, hfzz37, hfzz38, hfzz39, hfzz40⟩ := cZ8 BKz1.out) | (refine goesM 46 17 Tryz.func46 #[.slice A0_4 l0_4.length c0_4] ?_; refine (laws_toCallS.calls k _ _ l0_4 t113 _ (by exact Kd.C_below HR0_4.out (hX HB.out)) HC0_4.out A4.out).mono ?_; rintro e wz6 ⟨vz4, rfl, hoz1, hb⟩; refine ⟨_, rfl, ?_⟩; have HOz4 := Aside0.mk (Kd.S_lower hoz1 (below_size (hX HB.out))); replace HOz1 := Aside0.mk (Kd.R_below (rT (h := by exact (Kd.R_mono (Kd.R_far (p := ⟨gbz3, 3, none⟩) (Kd.R_far (p := ⟨gbz3, 2, none⟩) (Kd.R_types HOz1.out BKz3.out (by decide)) (fun _ hk => hk.2) (.slice Aoz3 t110.length coz3)) (fun _ hk => hk.2) (.int .i64 a0_3)) (fun _ h_ => h_.1)))) hb); replace HOz2 := Aside0.mk (Kd.S_below (by (with_reducible repeat (first | apply Kd.S_alloc | apply Kd.S_drewN | apply Kd.S_drew)); exact (Kd.S_mono (Kd.S_far (p := ⟨gbz3, 3, none⟩) (Kd.S_far (p := ⟨gbz3, 2, none⟩) (Kd.S_types HOz2.out BKz3.out (by decide)) (fun _ hk => hk.2) (.slice Aoz3 t110.length coz3)) (fun _ hk => hk.2) (.int .i64 a0_3)) (fun _ h_ => h_.1))) hb); replace HOz3 := Aside0.mk (Kd.S_below (by (with_reducible repeat (first | apply Kd.S_alloc | apply Kd.S_drewN | apply Kd.S_drew)); exact (Kd.S_mono (Kd.S_far (p := ⟨gbz3, 3, none⟩) (Kd.S_far (p := ⟨gbz3, 2, none⟩) (Kd.S_types HOz3.out BKz3.out (by decide)) (fun _ hk => hk.2) (.slice Aoz3 t110.length coz3)) (fun _ hk => hk.2) (.int .i64 a0_3)) (fun _ h_ => h_.1))) hb); replace BKz1 := Aside0.mk (blk_below (bF BKz1.out) hb); replace BKz2 := Aside0.mk (blk_below (bF BKz2.out) hb); replace BKz3 := Aside0.mk (blk_below (g := gbz3) (o := .cells #[.slice Aoz1 t104.length coz1, .slice Aoz2 t107.length coz2, .slice Aoz3 t110.length coz3, .int .i64 a0_3, .slice none 0 0, .slice none 0 0, .slice none 0 0, .int .i64 0] 43 (0, 0)) (bP BKz3.out) hb); replace HB := Aside0.mk (below_step (hX HB.out) hb); clear hb hoz1; obtain ⟨Aoz4, coz4, eoz4⟩ := Kd.S_slice HOz4.out; subst eoz4; obtain ⟨hczz41, hczz42, hczz43, hczz44, hczz45, hczz46, hczz47, hczz48, hfzz41, hfzz42, hfzz43, hfzz44, hfzz45, hfzz46, hfzz47, hfzz48⟩ := cZ8 BKz3.out; obtain ⟨hczz49, hczz50, hczz51, hczz52, hczz53, hczz54, hczz55, hczz56, hfzz49, hfzz50, hfzz51, hfzz52, hfzz53, hfzz54, hfzz55, hfzz56⟩ := cZ8 BKz1.out) | (refine goesM 47 21 Tryz.func47 #[.slice A0_5 l0_5.length c0_5] ?_; refine (laws_toIntS.calls k _ _ l0_5 t116 _ (by exact Kd.C_below HR0_5.out (hX HB.out)) HC0_5.out A5.out).mono ?_; rintro e wz7 ⟨vz5, rfl, hoz1, hb⟩; refine ⟨_, rfl, ?_⟩; have HOz5 := Aside0.mk (Kd.R_lower hoz1 (below_size (hX HB.out))); replace HOz1 := Aside0.mk (Kd.R_below (rT (h := by exact (Kd.R_mono (Kd.R_far (p := ⟨gbz3, 4, none⟩) (Kd.R_types HOz1.out BKz3.out (by decide)) (fun _ hk => hk.2) (.slice Aoz4 t113.length coz4)) (fun _ h_ => h_.1)))) hb); replace HOz2 := Aside0.mk (Kd.S_elder' (by (with_reducible repeat (first | apply Kd.S_alloc | apply Kd.S_drewN | apply Kd.S_drew)); exact (Kd.S_mono (Kd.S_far (p := ⟨gbz3, 4, none⟩) (Kd.S_types HOz2.out BKz3.out (by decide)) (fun _ hk => hk.2) (.slice Aoz4 t113.length coz4)) (fun _ h_ => h_.1))) (Kd.R_base hoz1) hb); replace HOz3 := Aside0.mk (Kd.S_below (by (with_reducible repeat (first | apply Kd.S_alloc | apply Kd.S_drewN | apply Kd.S_drew)); exact (Kd.S_mono (Kd.S_far (p := ⟨gbz3, 4, none⟩) (Kd.S_types HOz3.out BKz3.out (by decide)) (fun _ hk => hk.2) (.slice Aoz4 t113.length coz4)) (fun _ h_ => h_.1))) hb); replace HOz4 := Aside0.mk (Kd.S_elder' (by (with_reducible repeat (first | apply Kd.S_alloc | apply Kd.S_drewN | apply Kd.S_drew)); exact (Kd.S_mono (Kd.S_far (p := ⟨gbz3, 4, none⟩) (Kd.S_types HOz4.out BKz3.out (by decide)) (fun _ hk => hk.2) (.slice Aoz4 t113.length coz4)) (fun _ h_ => h_.1))) (Kd.R_base hoz1) hb); replace BKz1 := Aside0.mk (blk_below (bF BKz1.out) hb); replace BKz2 := Aside0.mk (blk_below (bF BKz2.out) hb); replace BKz3 := Aside0.mk (blk_below (g := gbz3) (o := .cells #[.slice Aoz1 t104.length coz1, .slice Aoz2 t107.length coz2, .slice Aoz3 t110.length coz3, .int .i64 a0_3, .slice Aoz4 t113.length coz4, .slice none 0 0, .slice none 0 0, .int .i64 0] 43 (0, 0)) (bP BKz3.out) hb); replace HB := Aside0.mk (below_step (hX HB.out) hb); clear hb hoz1; obtain ⟨Aoz5, coz5, eoz5⟩ := Kd.R_slice HOz5.out; subst eoz5; obtain ⟨hczz57, hczz58, hczz59, hczz60, hczz61, hczz62, hczz63, hczz64, hfzz57, hfzz58, hfzz59, hfzz60, hfzz61, hfzz62, hfzz63, hfzz64⟩ := cZ8 BKz3.out; obtain ⟨hczz65, hczz66, hczz67, hczz68, hczz69, hczz70, hczz71, hczz72, hfzz65, hfzz66, hfzz67, hfzz68, hfzz69, hfzz70, hfzz71, hfzz72⟩ := cZ8 BKz1.out) | (refine goesM 20 25 Tryz.func20 #[.agg #[.slice A0_6 l0_6.length c0_6, .int .i64 a0_7]] ?_; refine (laws_toRows.calls k _ _ l0_6 a0_7 t119 t122 _ (by exact Kd.C_below HR0_6.out (hX HB.out)) HC0_6.out A6.out).mono ?_; rintro e wz8 ⟨vz6, rfl, hoz1, hb⟩; refine ⟨_, rfl, ?_⟩; have HOz6 := Aside0.mk (Kd.R_lower (Kd.R_new' hoz1 (Kd.R_lt (rT (h := by exact (Kd.R_mono (Kd.R_far (p := ⟨gbz3, 5, none⟩) (Kd.R_types HOz5.out BKz3.out (by decide)) (fun _ hk => hk.2) (.slice Aoz5 t116.length coz5)) (fun _ h_ => h_.1)))))) (below_size (hX HB.out))); replace HOz1 := Aside0.mk (Kd.R_below (rT (h := by exact (Kd.R_mono (Kd.R_far (p := ⟨gbz3, 5, none⟩) (Kd.R_types HOz1.out BKz3.out (by decide)) (fun _ hk => hk.2) (.slice Aoz5 t116.length coz5)) (fun _ h_ => h_.1)))) hb); replace HOz2 := Aside0.mk (Kd.S_elder' (by (with_reducible repeat (first | apply Kd.S_alloc | apply Kd.S_drewN | apply Kd.S_drew)); exact (Kd.S_mono (Kd.S_far (p := ⟨gbz3, 5, none⟩) (Kd.S_types HOz2.out BKz3.out (by decide)) (fun _ hk => hk.2) (.slice Aoz5 t116.length coz5)) (fun _ h_ => h_.1))) (Kd.R_base hoz1) hb); replace HOz3 := Aside0.mk (Kd.S_below (by (with_reducible repeat (first | apply Kd.S_alloc | apply Kd.S_drewN | apply Kd.S_drew)); exact (Kd.S_mono (Kd.S_far (p := ⟨gbz3, 5, none⟩) (Kd.S_types HOz3.out BKz3.out (by decide)) (fun _ hk => hk.2) (.slice Aoz5 t116.length coz5)) (fun _ h_ => h_.1))) hb); replace HOz4 := Aside0.mk (Kd.S_elder' (by (with_reducible repeat (first | apply Kd.S_alloc | apply Kd.S_drewN | apply Kd.S_drew)); exact (Kd.S_mono (Kd.S_far (p := ⟨gbz3, 5, none⟩) (Kd.S_types HOz4.out BKz3.out (by decide)) (fun _ hk => hk.2) (.slice Aoz5 t116.length coz5)) (fun _ h_ => h_.1))) (Kd.R_base hoz1) hb); replace HOz5 := Aside0.mk (Kd.R_elder' (rT (h := by exact (Kd.R_mono (Kd.R_far (p := ⟨gbz3, 5, none⟩) (Kd.R_types HOz5.out BKz3.out (by decide)) (fun _ hk => hk.2) (.slice Aoz5 t116.length coz5)) (fun _ h_ => h_.1)))) (Kd.R_base hoz1) hb); replace BKz1 := Aside0.mk (blk_below (bF BKz1.out) hb); replace BKz2 := Aside0.mk (blk_below (bF BKz2.out) hb); replace BKz3 := Aside0.mk (blk_below (g := gbz3) (o := .cells #[.slice Aoz1 t104.length coz1, .slice Aoz2 t107.length coz2, .slice Aoz3 t110.length coz3, .int .i64 a0_3, .slice Aoz4 t113.length coz4, .slice Aoz5 t116.length coz5, .slice none 0 0, .int .i64 0] 43 (0, 0)) (bP BKz3.out) hb); replace HB := Aside0.mk (below_step (hX HB.out) hb); clear hb hoz1; obtain ⟨Aoz6, coz6, eoz6⟩ := Kd.R_slice HOz6.out; subst eoz6; obtain ⟨hczz73, hczz74, hczz75, hczz76, hczz77, hczz78, hczz79, hczz80, hfzz73, hfzz74, hfzz75, hfzz76, hfzz77, hfzz78, hfzz79, hfzz80⟩ := cZ8 BKz3.out; obtain ⟨hczz81, hczz82, hczz83, hczz84, hczz85, hczz86, hczz87, hczz88, hfzz81, hfzz82, hfzz83, hfzz84, hfzz85, hfzz86, hfzz87, hfzz88⟩ := cZ8 BKz2.out))
  refine bodyPost_ret (results_cell_row rfl _ _ gbz2 43 #[.slice Aoz1 t104.length coz1, .slice Aoz2 t107.length coz2, .slice Aoz3 t110.length coz3, .int .i64 a0_3, .slice Aoz4 t113.length coz4, .slice Aoz5 t116.length coz5, .slice Aoz6 t119.length coz6, .int .i64 t122] (0, 0) _ rfl (bP BKz2.out) Tryz.underlying43 rfl (by kernel_rfl)) rfl ?_
  exact ⟨_, _, _, _, _, _, rE, (rT (h := by exact Kd.R_mono (Kd.R_far (p := ⟨gbz2, 7, none⟩) (Kd.R_far (p := ⟨gbz2, 6, none⟩) (Kd.R_far (p := ⟨gbz2, 5, none⟩) (Kd.R_far (p := ⟨gbz2, 4, none⟩) (Kd.R_far (p := ⟨gbz2, 3, none⟩) (Kd.R_far (p := ⟨gbz2, 2, none⟩) (Kd.R_far (p := ⟨gbz2, 1, none⟩) (Kd.R_far (p := ⟨gbz2, 0, none⟩) (Kd.R_far (p := ⟨gbz3, 7, none⟩) (Kd.R_far (p := ⟨gbz3, 6, none⟩) (Kd.R_types (Kd.R_types HOz1.out BKz3.out (by decide)) BKz2.out (by decide)) (fun _ hk => hk.1.2) (.slice Aoz6 t119.length coz6)) (fun _ hk => hk.1.2) (.int .i64 t122)) (fun _ hk => hk.2) (.slice Aoz1 t104.length coz1)) (fun _ hk => hk.2) (.slice Aoz2 t107.length coz2)) (fun _ hk => hk.2) (.slice Aoz3 t110.length coz3)) (fun _ hk => hk.2) (.int .i64 a0_3)) (fun _ hk => hk.2) (.slice Aoz4 t113.length coz4)) (fun _ hk => hk.2) (.slice Aoz5 t116.length coz5)) (fun _ hk => hk.2) (.slice Aoz6 t119.length coz6)) (fun _ hk => hk.2) (.int .i64 t122)) (fun _ hk => trivial))), by (with_reducible repeat (first | apply Kd.S_alloc | apply Kd.S_drewN | apply Kd.S_drew)); exact Kd.S_mono (Kd.S_far (p := ⟨gbz2, 7, none⟩) (Kd.S_far (p := ⟨gbz2, 6, none⟩) (Kd.S_far (p := ⟨gbz2, 5, none⟩) (Kd.S_far (p := ⟨gbz2, 4, none⟩) (Kd.S_far (p := ⟨gbz2, 3, none⟩) (Kd.S_far (p := ⟨gbz2, 2, none⟩) (Kd.S_far (p := ⟨gbz2, 1, none⟩) (Kd.S_far (p := ⟨gbz2, 0, none⟩) (Kd.S_far (p := ⟨gbz3, 7, none⟩) (Kd.S_far (p := ⟨gbz3, 6, none⟩) (Kd.S_types (Kd.S_types HOz2.out BKz3.out (by decide)) BKz2.out (by decide)) (fun _ hk => hk.1.2) (.slice Aoz6 t119.length coz6)) (fun _ hk => hk.1.2) (.int .i64 t122)) (fun _ hk => hk.2) (.slice Aoz1 t104.length coz1)) (fun _ hk => hk.2) (.slice Aoz2 t107.length coz2)) (fun _ hk => hk.2) (.slice Aoz3 t110.length coz3)) (fun _ hk => hk.2) (.int .i64 a0_3)) (fun _ hk => hk.2) (.slice Aoz4 t113.length coz4)) (fun _ hk => hk.2) (.slice Aoz5 t116.length coz5)) (fun _ hk => hk.2) (.slice Aoz6 t119.length coz6)) (fun _ hk => hk.2) (.int .i64 t122)) (fun _ hk => ⟨hk.1.1.1.2, hk.1.1.2⟩), by (with_reducible repeat (first | apply Kd.S_alloc | apply Kd.S_drewN | apply Kd.S_drew)); exact Kd.S_mono (Kd.S_far (p := ⟨gbz2, 7, none⟩) (Kd.S_far (p := ⟨gbz2, 6, none⟩) (Kd.S_far (p := ⟨gbz2, 5, none⟩) (Kd.S_far (p := ⟨gbz2, 4, none⟩) (Kd.S_far (p := ⟨gbz2, 3, none⟩) (Kd.S_far (p := ⟨gbz2, 2, none⟩) (Kd.S_far (p := ⟨gbz2, 1, none⟩) (Kd.S_far (p := ⟨gbz2, 0, none⟩) (Kd.S_far (p := ⟨gbz3, 7, none⟩) (Kd.S_far (p := ⟨gbz3, 6, none⟩) (Kd.S_types (Kd.S_types HOz3.out BKz3.out (by decide)) BKz2.out (by decide)) (fun _ hk => hk.1.2) (.slice Aoz6 t119.length coz6)) (fun _ hk => hk.1.2) (.int .i64 t122)) (fun _ hk => hk.2) (.slice Aoz1 t104.length coz1)) (fun _ hk => hk.2) (.slice Aoz2 t107.length coz2)) (fun _ hk => hk.2) (.slice Aoz3 t110.length coz3)) (fun _ hk => hk.2) (.int .i64 a0_3)) (fun _ hk => hk.2) (.slice Aoz4 t113.length coz4)) (fun _ hk => hk.2) (.slice Aoz5 t116.length coz5)) (fun _ hk => hk.2) (.slice Aoz6 t119.length coz6)) (fun _ hk => hk.2) (.int .i64 t122)) (fun _ hk => trivial), by (with_reducible repeat (first | apply Kd.S_alloc | apply Kd.S_drewN | apply Kd.S_drew)); exact Kd.S_mono (Kd.S_far (p := ⟨gbz2, 7, none⟩) (Kd.S_far (p := ⟨gbz2, 6, none⟩) (Kd.S_far (p := ⟨gbz2, 5, none⟩) (Kd.S_far (p := ⟨gbz2, 4, none⟩) (Kd.S_far (p := ⟨gbz2, 3, none⟩) (Kd.S_far (p := ⟨gbz2, 2, none⟩) (Kd.S_far (p := ⟨gbz2, 1, none⟩) (Kd.S_far (p := ⟨gbz2, 0, none⟩) (Kd.S_far (p := ⟨gbz3, 7, none⟩) (Kd.S_far (p := ⟨gbz3, 6, none⟩) (Kd.S_types (Kd.S_types HOz4.out BKz3.out (by decide)) BKz2.out (by decide)) (fun _ hk => hk.1.2) (.slice Aoz6 t119.length coz6)) (fun _ hk => hk.1.2) (.int .i64 t122)) (fun _ hk => hk.2) (.slice Aoz1 t104.length coz1)) (fun _ hk => hk.2) (.slice Aoz2 t107.length coz2)) (fun _ hk => hk.2) (.slice Aoz3 t110.length coz3)) (fun _ hk => hk.2) (.int .i64 a0_3)) (fun _ hk => hk.2) (.slice Aoz4 t113.length coz4)) (fun _ hk => hk.2) (.slice Aoz5 t116.length coz5)) (fun _ hk => hk.2) (.slice Aoz6 t119.length coz6)) (fun _ hk => hk.2) (.int .i64 t122)) (fun _ hk => ⟨hk.1.1.1.2, hk.1.1.2⟩), (rT (h := by exact Kd.R_mono (Kd.R_far (p := ⟨gbz2, 7, none⟩) (Kd.R_far (p := ⟨gbz2, 6, none⟩) (Kd.R_far (p := ⟨gbz2, 5, none⟩) (Kd.R_far (p := ⟨gbz2, 4, none⟩) (Kd.R_far (p := ⟨gbz2, 3, none⟩) (Kd.R_far (p := ⟨gbz2, 2, none⟩) (Kd.R_far (p := ⟨gbz2, 1, none⟩) (Kd.R_far (p := ⟨gbz2, 0, none⟩) (Kd.R_far (p := ⟨gbz3, 7, none⟩) (Kd.R_far (p := ⟨gbz3, 6, none⟩) (Kd.R_types (Kd.R_types HOz5.out BKz3.out (by decide)) BKz2.out (by decide)) (fun _ hk => hk.1.2) (.slice Aoz6 t119.length coz6)) (fun _ hk => hk.1.2) (.int .i64 t122)) (fun _ hk => hk.2) (.slice Aoz1 t104.length coz1)) (fun _ hk => hk.2) (.slice Aoz2 t107.length coz2)) (fun _ hk => hk.2) (.slice Aoz3 t110.length coz3)) (fun _ hk => hk.2) (.int .i64 a0_3)) (fun _ hk => hk.2) (.slice Aoz4 t113.length coz4)) (fun _ hk => hk.2) (.slice Aoz5 t116.length coz5)) (fun _ hk => hk.2) (.slice Aoz6 t119.length coz6)) (fun _ hk => hk.2) (.int .i64 t122)) (fun _ hk => hk.1.1.2))), (rT (h := by exact Kd.R_mono (Kd.R_far (p := ⟨gbz2, 7, none⟩) (Kd.R_far (p := ⟨gbz2, 6, none⟩) (Kd.R_far (p := ⟨gbz2, 5, none⟩) (Kd.R_far (p := ⟨gbz2, 4, none⟩) (Kd.R_far (p := ⟨gbz2, 3, none⟩) (Kd.R_far (p := ⟨gbz2, 2, none⟩) (Kd.R_far (p := ⟨gbz2, 1, none⟩) (Kd.R_far (p := ⟨gbz2, 0, none⟩) (Kd.R_far (p := ⟨gbz3, 7, none⟩) (Kd.R_far (p := ⟨gbz3, 6, none⟩) (Kd.R_types (Kd.R_types HOz6.out BKz3.out (by decide)) BKz2.out (by decide)) (fun _ hk => hk.1.2) (.slice Aoz6 t119.length coz6)) (fun _ hk => hk.1.2) (.int .i64 t122)) (fun _ hk => hk.2) (.slice Aoz1 t104.length coz1)) (fun _ hk => hk.2) (.slice Aoz2 t107.length coz2)) (fun _ hk => hk.2) (.slice Aoz3 t110.length coz3)) (fun _ hk => hk.2) (.int .i64 a0_3)) (fun _ hk => hk.2) (.slice Aoz4 t113.length coz4)) (fun _ hk => hk.2) (.slice Aoz5 t116.length coz5)) (fun _ hk => hk.2) (.slice Aoz6 t119.length coz6)) (fun _ hk => hk.2) (.int .i64 t122)) (fun _ hk => hk.1.1.2))), (hX HB.out)⟩
end Go.Proofs.YtmljebgideecjaaGreat.P
namespace Go.Proofs.YtmljebgideecjaaGreat.P
open Go.Proofs.YtmljebgideecjaaGreatZ Go.RowKit Go.Proofs.YtmljebgideecjaaGreatW.PrintWords Go.Proofs.YtmljebgideecjaaGreatW.PrintLast Go.Proofs.YtmljebgideecjaaGreatW.PrintMore
attribute [local go_sem] max2_int min2_int max_two min_two max_three min_three max_four min_four   -- for this text's walks alone
set_option linter.unusedVariables false
set_option linter.unusedSimpArgs false
def laws_eqIntS.l0 : Nat → List Int → List Int → Int → Option (Bool)
  | 0, _, _, _ => none
  | k + 1, x0, x1, x5 => if x5 < (x0.length : Int) then (if 0 ≤ x5 then (if x5 < (x1.length : Int) then (if (rd x0 x5) = (rd x1 x5) then (laws_eqIntS.l0 k x0 x1 (wrap64 (x5 + 1))) else (some false)) else (none)) else (none)) else (some true)
def laws_eqIntS.f (k : Nat) (l0 : List Int) (l1 : List Int) : Option (Bool) := if (l0.length : Int) = (l1.length : Int) then (laws_eqIntS.l0 k l0 l1 0) else (some false)
set_option maxHeartbeats 8000000 in
set_option maxRecDepth 100000 in
theorem laws_eqIntS.calls (k : Nat) (A0 : Option Addr) (c0 : Nat) (l0 : List Int) (A1 : Option Addr) (c1 : Nat) (l1 : List Int) (r : Bool) (w : World) (hr0 : Kd.C (Kd.int .i64) w A0 l0.length l0) (hc0 : l0.length ≤ c0) (hr1 : Kd.C (Kd.int .i64) w A1 l1.length l1) (hc1 : l1.length ≤ c1) (h : laws_eqIntS.f k l0 l1 = some r) :
    Calls Tryz.prog 53 #[.slice A0 l0.length c0, .slice A1 l1.length c1] w fun e w' => e = .returned (.bool r) ∧ Drawn0 w w' := by
  have HR0 := Aside0.mk hr0
  have HC0 := Aside0.mk hc0
  clear hr0 hc0
  have HR1 := Aside0.mk hr1
  have HC1 := Aside0.mk hc1
  clear hr1 hc1
  have H := h
  unfold laws_eqIntS.f at H
  clear h
  go_enter Tryz.func53, Tryz.ntmps53
  by_cases c3 : (l0.length : Int) = (l1.length : Int)
  · rw [if_pos c3] at H
    obtain ⟨c3b0, c3b1⟩ := eqT c3
    have c3b2 : (l0.length == l1.length) = true := by first | simpa using c3 | (simp at c3 ⊢; omega)
    clear c3
    have H' := Aside0.mk H
    clear H
    go_wp2
    repeat (go_quiet (fail); try go_wp2)
    go_loopg [5] k (fun kq v5 w' => ∃ (x5_1 : Int), v5 = .int .i64 x5_1 ∧ Aside0 (laws_eqIntS.l0 kq l0 l1 x5_1 = some r) ∧ Aside0 (kq ≤ k) ∧ Drawn0 w w')
    case atStart => exact ⟨(0), rS, H', ⟨Nat.le_refl _⟩, dX⟩
    case round =>
      clear H'
      try clear c1
      try clear p2
      try clear c3
      try clear c3b0
      try clear c3b1
      try clear c3b2
      obtain ⟨x5_1, rfl, HA, HKy1, ⟨my1, rfl⟩⟩ := hrel
      cases gk with
      | zero => exact absurd HA.out (by simp [laws_eqIntS.l0])
      | succ k1 =>
        have H := HA.out
        clear HA
        simp only [laws_eqIntS.l0] at H
        by_cases c4 : x5_1 < (l0.length : Int)
        · rw [if_pos c4] at H
          have c4b0 := decide_eq_true c4
          clear c4
          replace H := ifP H; obtain ⟨c5, H⟩ := H
          have c5b0 := decide_eq_true c5
          clear c5
          replace H := ifP H; obtain ⟨c6, H⟩ := H
          have c6b0 := decide_eq_true c6
          clear c6
          by_cases c7 : (rd l0 x5_1) = (rd l1 x5_1)
          · rw [if_pos c7] at H
            obtain ⟨c7b0, c7b1⟩ := eqT c7
            clear c7
            have H' := Aside0.mk H
            clear H
            have px1 : 0 ≤ (x5_1 : Int) := of_decide_eq_true (by first | (with_reducible assumption) | assumption)
            have qx1 : x5_1 < (l0.length : Int) := of_decide_eq_true (by first | (with_reducible assumption) | assumption)
            obtain ⟨adx1, ex1, hxx1⟩ := Kd.at_int HR0.out x5_1 px1 qx1
            cases ex1
            replace px1 := eq_true px1
            replace qx1 := eq_true qx1
            have px2 : 0 ≤ (x5_1 : Int) := of_decide_eq_true (by first | (with_reducible assumption) | assumption)
            have qx2 : x5_1 < (l1.length : Int) := of_decide_eq_true (by first | (with_reducible assumption) | assumption)
            obtain ⟨adx2, ex2, hxx2⟩ := Kd.at_int HR1.out x5_1 px2 qx2
            cases ex2
            replace px2 := eq_true px2
            replace qx2 := eq_true qx2
            go_wp2
            repeat (go_quiet (fail); try go_wp2)
            go_roundg k1
            case measure => have := HKy1.out; omega
            case rel => exact ⟨(wrap64 (x5_1 + 1)), rS, H', ⟨by have := HKy1.out; omega⟩, dX⟩
          · rw [if_neg c7] at H
            obtain ⟨c7b0, c7b1⟩ := eqF c7
            obtain rfl := Option.some.inj H
            have px1 : 0 ≤ (x5_1 : Int) := of_decide_eq_true (by first | (with_reducible assumption) | assumption)
            have qx1 : x5_1 < (l0.length : Int) := of_decide_eq_true (by first | (with_reducible assumption) | assumption)
            obtain ⟨adx1, ex1, hxx1⟩ := Kd.at_int HR0.out x5_1 px1 qx1
            cases ex1
            replace px1 := eq_true px1
            replace qx1 := eq_true qx1
            have px2 : 0 ≤ (x5_1 : Int) := of_decide_eq_true (by first | (with_reducible assumption) | assumption)
            have qx2 : x5_1 < (l1.length : Int) := of_decide_eq_true (by first | (with_reducible assumption) | assumption)
            obtain ⟨adx2, ex2, hxx2⟩ := Kd.at_int HR1.out x5_1 px2 qx2
            cases ex2
            replace px2 := eq_true px2
            replace qx2 := eq_true qx2
            go_wp2
            repeat (go_quiet (fail); try go_wp2)
            go_ret
            exact ⟨by first | rfl | (simp; done) | (simp [*]; done), dX⟩
        · rw [if_neg c4] at H
          have c4b0 := decide_eq_false c4
          clear c4
          obtain rfl := Option.some.inj H
          go_wp2
          repeat (go_quiet (fail); try go_wp2)
          go_ret
          exact ⟨by first | rfl | (simp; done) | (simp [*]; done), dX⟩
  · rw [if_neg c3] at H
    obtain ⟨c3b0, c3b1⟩ := eqF c3
    have c3b2 : (l0.length == l1.length) = false := by first | simpa using c3 | (simp at c3 ⊢; omega)
    obtain rfl := Option.some.inj H
    go_wp2
    repeat (go_quiet (fail); try go_wp2)
    go_ret
    exact ⟨by first | rfl | (simp; done) | (simp [*]; done), dX⟩
end Go.Proofs.YtmljebgideecjaaGreat.P
namespace Go.Proofs.YtmljebgideecjaaGreat.P
open Go.Proofs.YtmljebgideecjaaGreatZ Go.RowKit Go.Proofs.YtmljebgideecjaaGreatW.PrintWords Go.Proofs.YtmljebgideecjaaGreatW.PrintLast Go.Proofs.YtmljebgideecjaaGreatW.PrintMore
attribute [local go_sem] max2_int min2_int max_two min_two max_three min_three max_four min_four   -- for this text's walks alone
set_option linter.unusedVariables false
set_option linter.unusedSimpArgs false
def laws_eqRows.f (k : Nat) (l0_0 : List Int) (a0_1 : Int) (l1_0 : List Int) (a1_1 : Int) : Option (Bool) := (laws_eqIntS.f k l0_0 l1_0).bind fun t103 => (if t103 = true then (if a0_1 = a1_1 then (some true) else (some false)) else (some false))
set_option maxHeartbeats 8000000 in
set_option maxRecDepth 100000 in
theorem laws_eqRows.calls (k : Nat) (A0_0 : Option Addr) (c0_0 : Nat) (l0_0 : List Int) (a0_1 : Int) (A1_0 : Option Addr) (c1_0 : Nat) (l1_0 : List Int) (a1_1 : Int) (r : Bool) (w : World) (hr0_0 : Kd.C (Kd.int .i64) w A0_0 l0_0.length l0_0) (hc0_0 : l0_0.length ≤ c0_0) (hr1_0 : Kd.C (Kd.int .i64) w A1_0 l1_0.length l1_0) (hc1_0 : l1_0.length ≤ c1_0) (h : laws_eqRows.f k l0_0 a0_1 l1_0 a1_1 = some r) :
    Calls Tryz.prog 23 #[.agg #[.slice A0_0 l0_0.length c0_0, .int .i64 a0_1], .agg #[.slice A1_0 l1_0.length c1_0, .int .i64 a1_1]] w fun e w' => e = .returned (.bool r) ∧ Below w.heap.size w w' := by
  have hu41 := Tryz.underlying41
  have HR0_0 := Aside0.mk hr0_0
  have HC0_0 := Aside0.mk hc0_0
  clear hr0_0 hc0_0
  have HR1_0 := Aside0.mk hr1_0
  have HC1_0 := Aside0.mk hc1_0
  clear hr1_0 hc1_0
  have HB := Aside0.mk (Below.refl w.heap.size w)
  have H := h
  unfold laws_eqRows.f at H
  clear h
  replace H := bE H; obtain ⟨t103, A3, H⟩ := H
  go_enter Tryz.func23, Tryz.ntmps23
  go_wp2_with (first | (refine boxE 2 #[.slice A0_0 l0_0.length c0_0, .int .i64 a0_1] 41 ?_; intro gbz1 hg wz1 hbox hb; have BKz1 := Aside0.mk (hbox); have GWz1 := Aside0.mk (gX' hg (hX HB.out)); have GEz1 := Aside0.mk (gX' hg (hX HB.out)); replace HB := Aside0.mk (below_step (hX HB.out) hb); clear hb hbox hg) | (refine boxE 3 #[.slice A1_0 l1_0.length c1_0, .int .i64 a1_1] 41 ?_; intro gbz2 hg wz2 hbox hb; have BKz2 := Aside0.mk (hbox); have GWz2 := Aside0.mk (gX' hg (hX HB.out)); have GEz2 := Aside0.mk (gX' hg (hX HB.out)); have NBz1 := Aside0.mk (gL hg (bX BKz1.out)); have NBz2 := Aside0.mk (gG hg (bX BKz1.out)); replace BKz1 := Aside0.mk (blk_below (bX BKz1.out) hb); replace HB := Aside0.mk (below_step (hX HB.out) hb); clear hb hbox hg; have hnbz1 := NBz1.out; have hncz1 := NBz2.out; obtain ⟨hczz1, hczz2, hfzz1, hfzz2⟩ := cZ2 BKz1.out; obtain ⟨hczz3, hczz4, hfzz3, hfzz4⟩ := cZ2 BKz2.out; refine Stop.out ?_))
  refine ⟨?_⟩
  by_cases c4 : t103 = true
  · subst c4
    rw [if_pos rfl] at H
    go_wp2_with (first | (refine goesM 53 9 Tryz.func53 #[.slice A0_0 l0_0.length c0_0, .slice A1_0 l1_0.length c1_0] ?_; refine (laws_eqIntS.calls k _ _ l0_0 _ _ l1_0 true _ (cC HR0_0.out HB.out) HC0_0.out (cC HR1_0.out HB.out) HC1_0.out A3.out).mono ?_; rintro e w' ⟨rfl, ⟨nd, rfl⟩⟩; refine ⟨_, rfl, ?_⟩; refine Stop.out ?_))
    refine ⟨?_⟩
    by_cases c5 : a0_1 = a1_1
    · rw [if_pos c5] at H
      obtain ⟨c5b0, c5b1⟩ := eqT c5
      clear c5
      obtain rfl := Option.some.inj H
      go_wp2
      go_ret
      exact ⟨rE, (hX HB.out)⟩
    · rw [if_neg c5] at H
      obtain ⟨c5b0, c5b1⟩ := eqF c5
      obtain rfl := Option.some.inj H
      go_wp2
      go_ret
      exact ⟨rE, (hX HB.out)⟩
  · replace c4 := Bool.eq_false_iff.mpr c4
    subst c4
    rw [if_neg nft] at H
    obtain rfl := Option.some.inj H
    go_wp2_with (first | (refine goesM 53 9 Tryz.func53 #[.slice A0_0 l0_0.length c0_0, .slice A1_0 l1_0.length c1_0] ?_; refine (laws_eqIntS.calls k _ _ l0_0 _ _ l1_0 false _ (cC HR0_0.out HB.out) HC0_0.out (cC HR1_0.out HB.out) HC1_0.out A3.out).mono ?_; rintro e w' ⟨rfl, ⟨nd, rfl⟩⟩; refine ⟨_, rfl, ?_⟩))
    go_ret
    exact ⟨rE, (hX HB.out)⟩
end Go.Proofs.YtmljebgideecjaaGreat.P
namespace Go.Proofs.YtmljebgideecjaaGreat.P
open Go.Proofs.YtmljebgideecjaaGreatZ Go.RowKit Go.Proofs.YtmljebgideecjaaGreatW.PrintWords Go.Proofs.YtmljebgideecjaaGreatW.PrintLast Go.Proofs.YtmljebgideecjaaGreatW.PrintMore
attribute [local go_sem] max2_int min2_int max_two min_two max_three min_three max_four min_four   -- for this text's walks alone
set_option linter.unusedVariables false
set_option linter.unusedSimpArgs false
def laws_eqWord.f (a0_0 : Int) (a0_1 : Int) (a0_2 : Int) (a1_0 : Int) (a1_1 : Int) (a1_2 : Int) : Option (Bool) := if a0_0 = a1_0 then (if a0_1 = a1_1 then (if a0_2 = a1_2 then (some true) else (some false)) else (some false)) else (some false)
set_option maxHeartbeats 8000000 in
set_option maxRecDepth 100000 in
theorem laws_eqWord.calls (a0_0 : Int) (a0_1 : Int) (a0_2 : Int) (a1_0 : Int) (a1_1 : Int) (a1_2 : Int) (r : Bool) (w : World) (h : laws_eqWord.f a0_0 a0_1 a0_2 a1_0 a1_1 a1_2 = some r) :
    Calls Tryz.prog 186 #[.agg #[.int .i64 a0_0, .int .i64 a0_1, .int .i64 a0_2], .agg #[.int .i64 a1_0, .int .i64 a1_1, .int .i64 a1_2]] w fun e w' => e = .returned (.bool r) ∧ Below w.heap.size w w' := by
  have hu140 := Tryz.underlying140
  have HB := Aside0.mk (Below.refl w.heap.size w)
  have H := h
  unfold laws_eqWord.f at H
  clear h
  go_enter Tryz.func186, Tryz.ntmps186
  go_wp2_with (first | (refine boxE 2 #[.int .i64 a0_0, .int .i64 a0_1, .int .i64 a0_2] 140 ?_; intro gbz1 hg wz1 hbox hb; have BKz1 := Aside0.mk (hbox); have GWz1 := Aside0.mk (gX' hg (hX HB.out)); have GEz1 := Aside0.mk (gX' hg (hX HB.out)); replace HB := Aside0.mk (below_step (hX HB.out) hb); clear hb hbox hg) | (refine boxE 3 #[.int .i64 a1_0, .int .i64 a1_1, .int .i64 a1_2] 140 ?_; intro gbz2 hg wz2 hbox hb; have BKz2 := Aside0.mk (hbox); have GWz2 := Aside0.mk (gX' hg (hX HB.out)); have GEz2 := Aside0.mk (gX' hg (hX HB.out)); have NBz1 := Aside0.mk (gL hg (bX BKz1.out)); have NBz2 := Aside0.mk (gG hg (bX BKz1.out)); replace BKz1 := Aside0.mk (blk_below (bX BKz1.out) hb); replace HB := Aside0.mk (below_step (hX HB.out) hb); clear hb hbox hg; have hnbz1 := NBz1.out; have hncz1 := NBz2.out; obtain ⟨hczz1, hczz2, hczz3, hfzz1, hfzz2, hfzz3⟩ := cZ3 BKz1.out; obtain ⟨hczz4, hczz5, hczz6, hfzz4, hfzz5, hfzz6⟩ := cZ3 BKz2.out; refine Stop.out ?_))
  refine ⟨?_⟩
  by_cases c3 : a0_0 = a1_0
  · rw [if_pos c3] at H
    obtain ⟨c3b0, c3b1⟩ := eqT c3
    clear c3
    by_cases c4 : a0_1 = a1_1
    · rw [if_pos c4] at H
      obtain ⟨c4b0, c4b1⟩ := eqT c4
      clear c4
      by_cases c5 : a0_2 = a1_2
      · rw [if_pos c5] at H
        obtain ⟨c5b0, c5b1⟩ := eqT c5
        clear c5
        obtain rfl := Option.some.inj H
        go_wp2
        go_ret
        exact ⟨rE, (hX HB.out)⟩
      · rw [if_neg c5] at H
        obtain ⟨c5b0, c5b1⟩ := eqF c5
        obtain rfl := Option.some.inj H
        go_wp2
        go_ret
        exact ⟨rE, (hX HB.out)⟩
    · rw [if_neg c4] at H
      obtain ⟨c4b0, c4b1⟩ := eqF c4
      obtain rfl := Option.some.inj H
      go_wp2
      go_ret
      exact ⟨rE, (hX HB.out)⟩
  · rw [if_neg c3] at H
    obtain ⟨c3b0, c3b1⟩ := eqF c3
    obtain rfl := Option.some.inj H
    go_wp2
    go_ret
    exact ⟨rE, (hX HB.out)⟩
end Go.Proofs.YtmljebgideecjaaGreat.P
namespace Go.Proofs.YtmljebgideecjaaGreat.P
open Go.Proofs.YtmljebgideecjaaGreatZ Go.RowKit Go.Proofs.YtmljebgideecjaaGreatW.PrintWords Go.Proofs.YtmljebgideecjaaGreatW.PrintLast Go.Proofs.YtmljebgideecjaaGreatW.PrintMore
attribute [local go_sem] max2_int min2_int max_two min_two max_three min_three max_four min_four   -- for this text's walks alone
set_option linter.unusedVariables false
set_option linter.unusedSimpArgs false
def laws_eqWordS.l0 : Nat → List (S140) → List (S140) → Int → Option (Bool)
  | 0, _, _, _ => none
  | k + 1, x0, x1, x5 => if x5 < (x0.length : Int) then (if 0 ≤ x5 then (if x5 < (x1.length : Int) then ((laws_eqWord.f ((rd_T140 x0 x5).f0) ((rd_T140 x0 x5).f1) ((rd_T140 x0 x5).f2) ((rd_T140 x1 x5).f0) ((rd_T140 x1 x5).f1) ((rd_T140 x1 x5).f2)).bind fun t103 => (if t103 = true then (laws_eqWordS.l0 k x0 x1 (wrap64 (x5 + 1))) else (some false))) else (none)) else (none)) else (some true)
def laws_eqWordS.f (k : Nat) (l0 : List (S140)) (l1 : List (S140)) : Option (Bool) := if (l0.length : Int) = (l1.length : Int) then (laws_eqWordS.l0 k l0 l1 0) else (some false)
def laws_eqWordS.T6 : Bool × List (List Nat × List Nat) := (true, [([], []), ([], []), ([0, 1], [0, 1]), ([2], [2]), ([], []), ([], []), ([4, 5], [4, 5]), ([6], [6]), ([3, 7], [3, 7]), ([8], [8])])
def laws_eqWordS.B6 : List Nat := [0, 0, 3, 7, 0, 0, 48, 112, 255, 511]
theorem laws_eqWordS.tab6 : rtab .any (opsOf Tryz.f109 6) = laws_eqWordS.T6 := by kernel_rfl
theorem laws_eqWordS.bits6 : waitsOk laws_eqWordS.T6.2 laws_eqWordS.B6 = true := by kernel_rfl
set_option maxHeartbeats 8000000 in
set_option maxRecDepth 100000 in
theorem laws_eqWordS.calls (k : Nat) (A0 : Option Addr) (c0 : Nat) (l0 : List (S140)) (A1 : Option Addr) (c1 : Nat) (l1 : List (S140)) (r : Bool) (w : World) (hr0 : Kd.C k140 w A0 l0.length l0) (hc0 : l0.length ≤ c0) (hr1 : Kd.C k140 w A1 l1.length l1) (hc1 : l1.length ≤ c1) (h : laws_eqWordS.f k l0 l1 = some r) :
    Calls Tryz.prog 109 #[.slice A0 l0.length c0, .slice A1 l1.length c1] w fun e w' => e = .returned (.bool r) ∧ Below w.heap.size w w' := by
  have hu140 := Tryz.underlying140
  have HR0 := Aside0.mk hr0
  have HC0 := Aside0.mk hc0
  clear hr0 hc0
  have HR1 := Aside0.mk hr1
  have HC1 := Aside0.mk hc1
  clear hr1 hc1
  have HB := Aside0.mk (Below.refl w.heap.size w)
  have H := h
  unfold laws_eqWordS.f at H
  clear h
  go_enter Tryz.func109, Tryz.ntmps109
  by_cases c3 : (l0.length : Int) = (l1.length : Int)
  · rw [if_pos c3] at H
    obtain ⟨c3b0, c3b1⟩ := eqT c3
    have c3b2 : (l0.length == l1.length) = true := by first | simpa using c3 | (simp at c3 ⊢; omega)
    clear c3
    have H' := Aside0.mk H
    clear H
    go_wp2
    go_loopg [5] k (fun kq v5 w' => ∃ (x5_1 : Int), v5 = .int .i64 x5_1 ∧ Aside0 (laws_eqWordS.l0 kq l0 l1 x5_1 = some r) ∧ Aside0 (kq ≤ k) ∧ Aside0 (Below w.heap.size w w'))
    case atStart => exact ⟨(0), rS, H', ⟨Nat.le_refl _⟩, ⟨(hX HB.out)⟩⟩
    case round =>
      clear H'
      try clear c1
      try clear p2
      try clear c3
      try clear c3b0
      try clear c3b1
      try clear c3b2
      obtain ⟨x5_1, rfl, HA, HKy1, HB⟩ := hrel
      cases gk with
      | zero => exact absurd HA.out (by simp [laws_eqWordS.l0])
      | succ k1 =>
        have H := HA.out
        clear HA
        simp only [laws_eqWordS.l0] at H
        by_cases c4 : x5_1 < (l0.length : Int)
        · rw [if_pos c4] at H
          have c4b0 := decide_eq_true c4
          clear c4
          replace H := ifP H; obtain ⟨c5, H⟩ := H
          have c5b0 := decide_eq_true c5
          clear c5
          replace H := ifP H; obtain ⟨c6, H⟩ := H
          have c6b0 := decide_eq_true c6
          clear c6
          replace H := bE H; obtain ⟨t103, A7, H⟩ := H
          try go_wp2
          replace HB := Aside0.mk (below_drew1 HB.out)
          have px1 : 0 ≤ (x5_1 : Int) := of_decide_eq_true (by first | (with_reducible assumption) | assumption)
          have qx1 : x5_1 < (l0.length : Int) := of_decide_eq_true (by first | (with_reducible assumption) | assumption)
          obtain ⟨adx1, ex1, hxx1, hxx2, hxx3⟩ := at_T140 HR0.out x5_1 px1 qx1
          have hwx1 := hxx3
          have hwx2 := hxx2
          have hwx3 := hxx1
          cases ex1
          replace hxx1 := (HB.out.cell (World.block_lt_of_cell? w _ hxx1)).trans hxx1
          replace hxx2 := (HB.out.cell (World.block_lt_of_cell? w _ hxx2)).trans hxx2
          replace hxx3 := (HB.out.cell (World.block_lt_of_cell? w _ hxx3)).trans hxx3
          replace px1 := eq_true px1
          replace qx1 := eq_true qx1
          have px2 : 0 ≤ (x5_1 : Int) := of_decide_eq_true (by first | (with_reducible assumption) | assumption)
          have qx2 : x5_1 < (l1.length : Int) := of_decide_eq_true (by first | (with_reducible assumption) | assumption)
          obtain ⟨adx2, ex2, hxx4, hxx5, hxx6⟩ := at_T140 HR1.out x5_1 px2 qx2
          have hwx4 := hxx6
          have hwx5 := hxx5
          have hwx6 := hxx4
          cases ex2
          replace hxx4 := (HB.out.cell (World.block_lt_of_cell? w _ hxx4)).trans hxx4
          replace hxx5 := (HB.out.cell (World.block_lt_of_cell? w _ hxx5)).trans hxx5
          replace hxx6 := (HB.out.cell (World.block_lt_of_cell? w _ hxx6)).trans hxx6
          replace px2 := eq_true px2
          replace qx2 := eq_true qx2
          refine start_ (n := 10) (S := fun w' => w'.cell? (adx1.add ((x5_1).toNat * 3)) = some (.int .i64 ((rd_T140 l0 x5_1).f0)) ∧ w'.cell? ⟨(adx1.add ((x5_1).toNat * 3)).block, (adx1.add ((x5_1).toNat * 3)).off + 1, none⟩ = some (.int .i64 ((rd_T140 l0 x5_1).f1)) ∧ w'.cell? ⟨(adx1.add ((x5_1).toNat * 3)).block, (adx1.add ((x5_1).toNat * 3)).off + 2, none⟩ = some (.int .i64 ((rd_T140 l0 x5_1).f2)) ∧ w'.cell? (adx2.add ((x5_1).toNat * 3)) = some (.int .i64 ((rd_T140 l1 x5_1).f0)) ∧ w'.cell? ⟨(adx2.add ((x5_1).toNat * 3)).block, (adx2.add ((x5_1).toNat * 3)).off + 1, none⟩ = some (.int .i64 ((rd_T140 l1 x5_1).f1)) ∧ w'.cell? ⟨(adx2.add ((x5_1).toNat * 3)).block, (adx2.add ((x5_1).toNat * 3)).off + 2, none⟩ = some (.int .i64 ((rd_T140 l1 x5_1).f2))) (ds := []) (bm 10 0) (by kernel_rfl) rfl (by kernel_rfl) ⟨((HB.out.cell (World.block_lt_of_cell? w _ hwx3)).trans hwx3), ((HB.out.cell (World.block_lt_of_cell? w _ hwx2)).trans hwx2), ((HB.out.cell (World.block_lt_of_cell? w _ hwx1)).trans hwx1), ((HB.out.cell (World.block_lt_of_cell? w _ hwx6)).trans hwx6), ((HB.out.cell (World.block_lt_of_cell? w _ hwx5)).trans hwx5), ((HB.out.cell (World.block_lt_of_cell? w _ hwx4)).trans hwx4)⟩ (fun hHeld => ?_); refine with_tabW laws_eqWordS.tab6 laws_eqWordS.bits6 (fun HT_ HW_ => ?_)
          generalize wr.drew = wx1 at HB hxx1 hxx2 hxx3 hxx4 hxx5 hxx6 hHeld ⊢
          refine pZ 0 17 (bm 10 1) HT_.out ?_
          refine pZ 1 18 (bm 10 3) HT_.out ?_
          refine pZ 2 19 (bm 10 7) HT_.out ?_
          refine pZ 4 21 (bm 10 23) HT_.out ?_
          refine pZ 5 22 (bm 10 55) HT_.out ?_
          refine pZ 6 23 (bm 10 119) HT_.out ?_
          refine tZ 3 20 (bm 10 127) HT_.out HW_.out hHeld ?_
          refine tZ 7 24 (bm 10 255) HT_.out HW_.out hHeld ?_
          by_cases c8 : t103 = true
          · subst c8
            rw [if_pos rfl] at H
            have H' := Aside0.mk H
            clear H
            refine oZ 8 (some 25) (bm 10 511) HT_.out (fun K hK => ?_)
            refine goesN Tryz.func186 #[.agg #[.int .i64 ((rd_T140 l0 x5_1).f0), .int .i64 ((rd_T140 l0 x5_1).f1), .int .i64 ((rd_T140 l0 x5_1).f2)], .agg #[.int .i64 ((rd_T140 l1 x5_1).f0), .int .i64 ((rd_T140 l1 x5_1).f1), .int .i64 ((rd_T140 l1 x5_1).f2)]] ?_
            with_reducible refine (laws_eqWord.calls ((rd_T140 l0 x5_1).f0) ((rd_T140 l0 x5_1).f1) ((rd_T140 l0 x5_1).f2) ((rd_T140 l1 x5_1).f0) ((rd_T140 l1 x5_1).f1) ((rd_T140 l1 x5_1).f2) true _ A7.out).mono ?_
            rintro e wx2 ⟨rfl, hb⟩
            refine ⟨_, rfl, ?_⟩
            replace HB := Aside0.mk (below_step (hX HB.out) hb)
            (try clear hb)
            (try clear hb2)
            (try clear hk)
            (try clear hi)
            refine hK.out _ _ ⟨((HB.out.cell (World.block_lt_of_cell? w _ hwx3)).trans hwx3), ((HB.out.cell (World.block_lt_of_cell? w _ hwx2)).trans hwx2), ((HB.out.cell (World.block_lt_of_cell? w _ hwx1)).trans hwx1), ((HB.out.cell (World.block_lt_of_cell? w _ hwx6)).trans hwx6), ((HB.out.cell (World.block_lt_of_cell? w _ hwx5)).trans hwx5), ((HB.out.cell (World.block_lt_of_cell? w _ hwx4)).trans hwx4)⟩ (fun hHeld => ?_)
            clear hK K
            refine nZ 25 ?_
            refine pZ 9 26 (bm 10 1023) HT_.out ?_
            refine done_ (done_of HT_.out (by kernel_rfl)) ?_
            try go_wp2
            go_roundg k1
            case measure => have := HKy1.out; omega
            case rel => exact ⟨(wrap64 (x5_1 + 1)), rS, H', ⟨by have := HKy1.out; omega⟩, ⟨(hX HB.out)⟩⟩
          · replace c8 := Bool.eq_false_iff.mpr c8
            subst c8
            rw [if_neg nft] at H
            obtain rfl := Option.some.inj H
            refine oZ 8 (some 25) (bm 10 511) HT_.out (fun K hK => ?_)
            refine goesN Tryz.func186 #[.agg #[.int .i64 ((rd_T140 l0 x5_1).f0), .int .i64 ((rd_T140 l0 x5_1).f1), .int .i64 ((rd_T140 l0 x5_1).f2)], .agg #[.int .i64 ((rd_T140 l1 x5_1).f0), .int .i64 ((rd_T140 l1 x5_1).f1), .int .i64 ((rd_T140 l1 x5_1).f2)]] ?_
            with_reducible refine (laws_eqWord.calls ((rd_T140 l0 x5_1).f0) ((rd_T140 l0 x5_1).f1) ((rd_T140 l0 x5_1).f2) ((rd_T140 l1 x5_1).f0) ((rd_T140 l1 x5_1).f1) ((rd_T140 l1 x5_1).f2) false _ A7.out).mono ?_
            rintro e wx2 ⟨rfl, hb⟩
            refine ⟨_, rfl, ?_⟩
            replace HB := Aside0.mk (below_step (hX HB.out) hb)
            (try clear hb)
            (try clear hb2)
            (try clear hk)
            (try clear hi)
            refine hK.out _ _ ⟨((HB.out.cell (World.block_lt_of_cell? w _ hwx3)).trans hwx3), ((HB.out.cell (World.block_lt_of_cell? w _ hwx2)).trans hwx2), ((HB.out.cell (World.block_lt_of_cell? w _ hwx1)).trans hwx1), ((HB.out.cell (World.block_lt_of_cell? w _ hwx6)).trans hwx6), ((HB.out.cell (World.block_lt_of_cell? w _ hwx5)).trans hwx5), ((HB.out.cell (World.block_lt_of_cell? w _ hwx4)).trans hwx4)⟩ (fun hHeld => ?_)
            clear hK K
            refine nZ 25 ?_
            refine pZ 9 26 (bm 10 1023) HT_.out ?_
            refine done_ (done_of HT_.out (by kernel_rfl)) ?_
            try go_wp2
            go_ret
            exact ⟨rE, (hX HB.out)⟩
        · rw [if_neg c4] at H
          have c4b0 := decide_eq_false c4
          clear c4
          obtain rfl := Option.some.inj H
          go_wp2
          go_ret
          exact ⟨rE, (hX HB.out)⟩
  · rw [if_neg c3] at H
    obtain ⟨c3b0, c3b1⟩ := eqF c3
    have c3b2 : (l0.length == l1.length) = false := by first | simpa using c3 | (simp at c3 ⊢; omega)
    obtain rfl := Option.some.inj H
    go_wp2
    go_ret
    exact ⟨rE, (hX HB.out)⟩
end Go.Proofs.YtmljebgideecjaaGreat.P
namespace Go.Proofs.YtmljebgideecjaaGreat.P
open Go.Proofs.YtmljebgideecjaaGreatZ Go.RowKit Go.Proofs.YtmljebgideecjaaGreatW.PrintWords Go.Proofs.YtmljebgideecjaaGreatW.PrintLast Go.Proofs.YtmljebgideecjaaGreatW.PrintMore
attribute [local go_sem] max2_int min2_int max_two min_two max_three min_three max_four min_four   -- for this text's walks alone
set_option linter.unusedVariables false
set_option linter.unusedSimpArgs false
def laws_eqRes.f (k : Nat) (a0_0 : Int) (l0_1 : List Int) (a1_0 : Int) (l1_1 : List Int) : Option (Bool) := if a0_0 = a1_0 then ((laws_eqIntS.f k l0_1 l1_1).bind fun t103 => (if t103 = true then (some true) else (some false))) else (some false)
set_option maxHeartbeats 8000000 in
set_option maxRecDepth 100000 in
theorem laws_eqRes.calls (k : Nat) (a0_0 : Int) (A0_1 : Option Addr) (c0_1 : Nat) (l0_1 : List Int) (a1_0 : Int) (A1_1 : Option Addr) (c1_1 : Nat) (l1_1 : List Int) (r : Bool) (w : World) (hr0_1 : Kd.C (Kd.int .i64) w A0_1 l0_1.length l0_1) (hc0_1 : l0_1.length ≤ c0_1) (hr1_1 : Kd.C (Kd.int .i64) w A1_1 l1_1.length l1_1) (hc1_1 : l1_1.length ≤ c1_1) (h : laws_eqRes.f k a0_0 l0_1 a1_0 l1_1 = some r) :
    Calls Tryz.prog 190 #[.agg #[.int .i64 a0_0, .slice A0_1 l0_1.length c0_1], .agg #[.int .i64 a1_0, .slice A1_1 l1_1.length c1_1]] w fun e w' => e = .returned (.bool r) ∧ Below w.heap.size w w' := by
  have hu71 := Tryz.underlying71
  have HR0_1 := Aside0.mk hr0_1
  have HC0_1 := Aside0.mk hc0_1
  clear hr0_1 hc0_1
  have HR1_1 := Aside0.mk hr1_1
  have HC1_1 := Aside0.mk hc1_1
  clear hr1_1 hc1_1
  have HB := Aside0.mk (Below.refl w.heap.size w)
  have H := h
  unfold laws_eqRes.f at H
  clear h
  go_enter Tryz.func190, Tryz.ntmps190
  go_wp2_with (first | (refine boxE 2 #[.int .i64 a0_0, .slice A0_1 l0_1.length c0_1] 71 ?_; intro gbz1 hg wz1 hbox hb; have BKz1 := Aside0.mk (hbox); have GWz1 := Aside0.mk (gX' hg (hX HB.out)); have GEz1 := Aside0.mk (gX' hg (hX HB.out)); replace HB := Aside0.mk (below_step (hX HB.out) hb); clear hb hbox hg) | (refine boxE 3 #[.int .i64 a1_0, .slice A1_1 l1_1.length c1_1] 71 ?_; intro gbz2 hg wz2 hbox hb; have BKz2 := Aside0.mk (hbox); have GWz2 := Aside0.mk (gX' hg (hX HB.out)); have GEz2 := Aside0.mk (gX' hg (hX HB.out)); have NBz1 := Aside0.mk (gL hg (bX BKz1.out)); have NBz2 := Aside0.mk (gG hg (bX BKz1.out)); replace BKz1 := Aside0.mk (blk_below (bX BKz1.out) hb); replace HB := Aside0.mk (below_step (hX HB.out) hb); clear hb hbox hg; have hnbz1 := NBz1.out; have hncz1 := NBz2.out; obtain ⟨hczz1, hczz2, hfzz1, hfzz2⟩ := cZ2 BKz1.out; obtain ⟨hczz3, hczz4, hfzz3, hfzz4⟩ := cZ2 BKz2.out; refine Stop.out ?_))
  refine ⟨?_⟩
  by_cases c3 : a0_0 = a1_0
  · rw [if_pos c3] at H
    obtain ⟨c3b0, c3b1⟩ := eqT c3
    clear c3
    replace H := bE H; obtain ⟨t103, A4, H⟩ := H
    by_cases c5 : t103 = true
    · subst c5
      rw [if_pos rfl] at H
      obtain rfl := Option.some.inj H
      go_wp2_with (first | (refine goesM 53 14 Tryz.func53 #[.slice A0_1 l0_1.length c0_1, .slice A1_1 l1_1.length c1_1] ?_; refine (laws_eqIntS.calls k _ _ l0_1 _ _ l1_1 true _ (cC HR0_1.out HB.out) HC0_1.out (cC HR1_1.out HB.out) HC1_1.out A4.out).mono ?_; rintro e w' ⟨rfl, ⟨nd, rfl⟩⟩; refine ⟨_, rfl, ?_⟩))
      go_ret
      exact ⟨rE, (hX HB.out)⟩
    · replace c5 := Bool.eq_false_iff.mpr c5
      subst c5
      rw [if_neg nft] at H
      obtain rfl := Option.some.inj H
      go_wp2_with (first | (refine goesM 53 14 Tryz.func53 #[.slice A0_1 l0_1.length c0_1, .slice A1_1 l1_1.length c1_1] ?_; refine (laws_eqIntS.calls k _ _ l0_1 _ _ l1_1 false _ (cC HR0_1.out HB.out) HC0_1.out (cC HR1_1.out HB.out) HC1_1.out A4.out).mono ?_; rintro e w' ⟨rfl, ⟨nd, rfl⟩⟩; refine ⟨_, rfl, ?_⟩))
      go_ret
      exact ⟨rE, (hX HB.out)⟩
  · rw [if_neg c3] at H
    obtain ⟨c3b0, c3b1⟩ := eqF c3
    obtain rfl := Option.some.inj H
    go_wp2
    go_ret
    exact ⟨rE, (hX HB.out)⟩
end Go.Proofs.YtmljebgideecjaaGreat.P
namespace Go.Proofs.YtmljebgideecjaaGreat.P
open Go.Proofs.YtmljebgideecjaaGreatZ Go.RowKit Go.Proofs.YtmljebgideecjaaGreatW.PrintWords Go.Proofs.YtmljebgideecjaaGreatW.PrintLast Go.Proofs.YtmljebgideecjaaGreatW.PrintMore
attribute [local go_sem] max2_int min2_int max_two min_two max_three min_three max_four min_four   -- for this text's walks alone
set_option linter.unusedVariables false
set_option linter.unusedSimpArgs false
def laws_eqEntry.f (a0_0 : Int) (a0_1 : Int) (a0_2 : Int) (a1_0 : Int) (a1_1 : Int) (a1_2 : Int) : Option (Bool) := if a0_0 = a1_0 then (if a0_1 = a1_1 then (if a0_2 = a1_2 then (some true) else (some false)) else (some false)) else (some false)
set_option maxHeartbeats 8000000 in
set_option maxRecDepth 100000 in
theorem laws_eqEntry.calls (a0_0 : Int) (a0_1 : Int) (a0_2 : Int) (a1_0 : Int) (a1_1 : Int) (a1_2 : Int) (r : Bool) (w : World) (h : laws_eqEntry.f a0_0 a0_1 a0_2 a1_0 a1_1 a1_2 = some r) :
    Calls Tryz.prog 220 #[.agg #[.int .i64 a0_0, .int .i64 a0_1, .int .i64 a0_2], .agg #[.int .i64 a1_0, .int .i64 a1_1, .int .i64 a1_2]] w fun e w' => e = .returned (.bool r) ∧ Below w.heap.size w w' := by
  have hu165 := Tryz.underlying165
  have HB := Aside0.mk (Below.refl w.heap.size w)
  have H := h
  unfold laws_eqEntry.f at H
  clear h
  go_enter Tryz.func220, Tryz.ntmps220
  go_wp2_with (first | (refine boxE 2 #[.int .i64 a0_0, .int .i64 a0_1, .int .i64 a0_2] 165 ?_; intro gbz1 hg wz1 hbox hb; have BKz1 := Aside0.mk (hbox); have GWz1 := Aside0.mk (gX' hg (hX HB.out)); have GEz1 := Aside0.mk (gX' hg (hX HB.out)); replace HB := Aside0.mk (below_step (hX HB.out) hb); clear hb hbox hg) | (refine boxE 3 #[.int .i64 a1_0, .int .i64 a1_1, .int .i64 a1_2] 165 ?_; intro gbz2 hg wz2 hbox hb; have BKz2 := Aside0.mk (hbox); have GWz2 := Aside0.mk (gX' hg (hX HB.out)); have GEz2 := Aside0.mk (gX' hg (hX HB.out)); have NBz1 := Aside0.mk (gL hg (bX BKz1.out)); have NBz2 := Aside0.mk (gG hg (bX BKz1.out)); replace BKz1 := Aside0.mk (blk_below (bX BKz1.out) hb); replace HB := Aside0.mk (below_step (hX HB.out) hb); clear hb hbox hg; have hnbz1 := NBz1.out; have hncz1 := NBz2.out; obtain ⟨hczz1, hczz2, hczz3, hfzz1, hfzz2, hfzz3⟩ := cZ3 BKz1.out; obtain ⟨hczz4, hczz5, hczz6, hfzz4, hfzz5, hfzz6⟩ := cZ3 BKz2.out; refine Stop.out ?_))
  refine ⟨?_⟩
  by_cases c3 : a0_0 = a1_0
  · rw [if_pos c3] at H
    obtain ⟨c3b0, c3b1⟩ := eqT c3
    clear c3
    by_cases c4 : a0_1 = a1_1
    · rw [if_pos c4] at H
      obtain ⟨c4b0, c4b1⟩ := eqT c4
      clear c4
      by_cases c5 : a0_2 = a1_2
      · rw [if_pos c5] at H
        obtain ⟨c5b0, c5b1⟩ := eqT c5
        clear c5
        obtain rfl := Option.some.inj H
        go_wp2
        go_ret
        exact ⟨rE, (hX HB.out)⟩
      · rw [if_neg c5] at H
        obtain ⟨c5b0, c5b1⟩ := eqF c5
        obtain rfl := Option.some.inj H
        go_wp2
        go_ret
        exact ⟨rE, (hX HB.out)⟩
    · rw [if_neg c4] at H
      obtain ⟨c4b0, c4b1⟩ := eqF c4
      obtain rfl := Option.some.inj H
      go_wp2
      go_ret
      exact ⟨rE, (hX HB.out)⟩
  · rw [if_neg c3] at H
    obtain ⟨c3b0, c3b1⟩ := eqF c3
    obtain rfl := Option.some.inj H
    go_wp2
    go_ret
    exact ⟨rE, (hX HB.out)⟩
end Go.Proofs.YtmljebgideecjaaGreat.P
namespace Go.Proofs.YtmljebgideecjaaGreat.P
open Go.Proofs.YtmljebgideecjaaGreatZ Go.RowKit Go.Proofs.YtmljebgideecjaaGreatW.PrintWords Go.Proofs.YtmljebgideecjaaGreatW.PrintLast Go.Proofs.YtmljebgideecjaaGreatW.PrintMore
attribute [local go_sem] max2_int min2_int max_two min_two max_three min_three max_four min_four   -- for this text's walks alone
set_option linter.unusedVariables false
set_option linter.unusedSimpArgs false
def laws_eqEntryS.l0 : Nat → List (S165) → List (S165) → Int → Option (Bool)
  | 0, _, _, _ => none
  | k + 1, x0, x1, x5 => if x5 < (x0.length : Int) then (if 0 ≤ x5 then (if x5 < (x1.length : Int) then ((laws_eqEntry.f ((rd_T165 x0 x5).f0) ((rd_T165 x0 x5).f1) ((rd_T165 x0 x5).f2) ((rd_T165 x1 x5).f0) ((rd_T165 x1 x5).f1) ((rd_T165 x1 x5).f2)).bind fun t103 => (if t103 = true then (laws_eqEntryS.l0 k x0 x1 (wrap64 (x5 + 1))) else (some false))) else (none)) else (none)) else (some true)
def laws_eqEntryS.f (k : Nat) (l0 : List (S165)) (l1 : List (S165)) : Option (Bool) := if (l0.length : Int) = (l1.length : Int) then (laws_eqEntryS.l0 k l0 l1 0) else (some false)
def laws_eqEntryS.T6 : Bool × List (List Nat × List Nat) := (true, [([], []), ([], []), ([0, 1], [0, 1]), ([2], [2]), ([], []), ([], []), ([4, 5], [4, 5]), ([6], [6]), ([3, 7], [3, 7]), ([8], [8])])
def laws_eqEntryS.B6 : List Nat := [0, 0, 3, 7, 0, 0, 48, 112, 255, 511]
theorem laws_eqEntryS.tab6 : rtab .any (opsOf Tryz.f213 6) = laws_eqEntryS.T6 := by kernel_rfl
theorem laws_eqEntryS.bits6 : waitsOk laws_eqEntryS.T6.2 laws_eqEntryS.B6 = true := by kernel_rfl
set_option maxHeartbeats 8000000 in
set_option maxRecDepth 100000 in
theorem laws_eqEntryS.calls (k : Nat) (A0 : Option Addr) (c0 : Nat) (l0 : List (S165)) (A1 : Option Addr) (c1 : Nat) (l1 : List (S165)) (r : Bool) (w : World) (hr0 : Kd.C k165 w A0 l0.length l0) (hc0 : l0.length ≤ c0) (hr1 : Kd.C k165 w A1 l1.length l1) (hc1 : l1.length ≤ c1) (h : laws_eqEntryS.f k l0 l1 = some r) :
    Calls Tryz.prog 213 #[.slice A0 l0.length c0, .slice A1 l1.length c1] w fun e w' => e = .returned (.bool r) ∧ Below w.heap.size w w' := by
  have hu165 := Tryz.underlying165
  have HR0 := Aside0.mk hr0
  have HC0 := Aside0.mk hc0
  clear hr0 hc0
  have HR1 := Aside0.mk hr1
  have HC1 := Aside0.mk hc1
  clear hr1 hc1
  have HB := Aside0.mk (Below.refl w.heap.size w)
  have H := h
  unfold laws_eqEntryS.f at H
  clear h
  go_enter Tryz.func213, Tryz.ntmps213
  by_cases c3 : (l0.length : Int) = (l1.length : Int)
  · rw [if_pos c3] at H
    obtain ⟨c3b0, c3b1⟩ := eqT c3
    have c3b2 : (l0.length == l1.length) = true := by first | simpa using c3 | (simp at c3 ⊢; omega)
    clear c3
    have H' := Aside0.mk H
    clear H
    go_wp2
    go_loopg [5] k (fun kq v5 w' => ∃ (x5_1 : Int), v5 = .int .i64 x5_1 ∧ Aside0 (laws_eqEntryS.l0 kq l0 l1 x5_1 = some r) ∧ Aside0 (kq ≤ k) ∧ Aside0 (Below w.heap.size w w'))
    case atStart => exact ⟨(0), rS, H', ⟨Nat.le_refl _⟩, ⟨(hX HB.out)⟩⟩
    case round =>
      clear H'
      try clear c1
      try clear c2
      try clear p2
      try clear c3
      try clear c3b0
      try clear c3b1
      try clear c3b2
      obtain ⟨x5_1, rfl, HA, HKy1, HB⟩ := hrel
      cases gk with
      | zero => exact absurd HA.out (by simp [laws_eqEntryS.l0])
      | succ k1 =>
        have H := HA.out
        clear HA
        simp only [laws_eqEntryS.l0] at H
        by_cases c4 : x5_1 < (l0.length : Int)
        · rw [if_pos c4] at H
          have c4b0 := decide_eq_true c4
          clear c4
          replace H := ifP H; obtain ⟨c5, H⟩ := H
          have c5b0 := decide_eq_true c5
          clear c5
          replace H := ifP H; obtain ⟨c6, H⟩ := H
          have c6b0 := decide_eq_true c6
          clear c6
          replace H := bE H; obtain ⟨t103, A7, H⟩ := H
          try go_wp2
          replace HB := Aside0.mk (below_drew1 HB.out)
          have px1 : 0 ≤ (x5_1 : Int) := of_decide_eq_true (by first | (with_reducible assumption) | assumption)
          have qx1 : x5_1 < (l0.length : Int) := of_decide_eq_true (by first | (with_reducible assumption) | assumption)
          obtain ⟨adx1, ex1, hxx1, hxx2, hxx3⟩ := at_T165 HR0.out x5_1 px1 qx1
          have hwx1 := hxx3
          have hwx2 := hxx2
          have hwx3 := hxx1
          cases ex1
          replace hxx1 := (HB.out.cell (World.block_lt_of_cell? w _ hxx1)).trans hxx1
          replace hxx2 := (HB.out.cell (World.block_lt_of_cell? w _ hxx2)).trans hxx2
          replace hxx3 := (HB.out.cell (World.block_lt_of_cell? w _ hxx3)).trans hxx3
          replace px1 := eq_true px1
          replace qx1 := eq_true qx1
          have px2 : 0 ≤ (x5_1 : Int) := of_decide_eq_true (by first | (with_reducible assumption) | assumption)
          have qx2 : x5_1 < (l1.length : Int) := of_decide_eq_true (by first | (with_reducible assumption) | assumption)
          obtain ⟨adx2, ex2, hxx4, hxx5, hxx6⟩ := at_T165 HR1.out x5_1 px2 qx2
          have hwx4 := hxx6
          have hwx5 := hxx5
          have hwx6 := hxx4
          cases ex2
          replace hxx4 := (HB.out.cell (World.block_lt_of_cell? w _ hxx4)).trans hxx4
          replace hxx5 := (HB.out.cell (World.block_lt_of_cell? w _ hxx5)).trans hxx5
          replace hxx6 := (HB.out.cell (World.block_lt_of_cell? w _ hxx6)).trans hxx6
          replace px2 := eq_true px2
          replace qx2 := eq_true qx2
          refine start_ (n := 10) (S := fun w' => w'.cell? (adx1.add ((x5_1).toNat * 3)) = some (.int .i64 ((rd_T165 l0 x5_1).f0)) ∧ w'.cell? ⟨(adx1.add ((x5_1).toNat * 3)).block, (adx1.add ((x5_1).toNat * 3)).off + 1, none⟩ = some (.int .i64 ((rd_T165 l0 x5_1).f1)) ∧ w'.cell? ⟨(adx1.add ((x5_1).toNat * 3)).block, (adx1.add ((x5_1).toNat * 3)).off + 2, none⟩ = some (.int .i64 ((rd_T165 l0 x5_1).f2)) ∧ w'.cell? (adx2.add ((x5_1).toNat * 3)) = some (.int .i64 ((rd_T165 l1 x5_1).f0)) ∧ w'.cell? ⟨(adx2.add ((x5_1).toNat * 3)).block, (adx2.add ((x5_1).toNat * 3)).off + 1, none⟩ = some (.int .i64 ((rd_T165 l1 x5_1).f1)) ∧ w'.cell? ⟨(adx2.add ((x5_1).toNat * 3)).block, (adx2.add ((x5_1).toNat * 3)).off + 2, none⟩ = some (.int .i64 ((rd_T165 l1 x5_1).f2))) (ds := []) (bm 10 0) (by kernel_rfl) rfl (by kernel_rfl) ⟨((HB.out.cell (World.block_lt_of_cell? w _ hwx3)).trans hwx3), ((HB.out.cell (World.block_lt_of_cell? w _ hwx2)).trans hwx2), ((HB.out.cell (World.block_lt_of_cell? w _ hwx1)).trans hwx1), ((HB.out.cell (World.block_lt_of_cell? w _ hwx6)).trans hwx6), ((HB.out.cell (World.block_lt_of_cell? w _ hwx5)).trans hwx5), ((HB.out.cell (World.block_lt_of_cell? w _ hwx4)).trans hwx4)⟩ (fun hHeld => ?_); refine with_tabW laws_eqEntryS.tab6 laws_eqEntryS.bits6 (fun HT_ HW_ => ?_)
          generalize wr.drew = wx1 at HB hxx1 hxx2 hxx3 hxx4 hxx5 hxx6 hHeld ⊢
          refine pZ 0 17 (bm 10 1) HT_.out ?_
          refine pZ 1 18 (bm 10 3) HT_.out ?_
          refine pZ 2 19 (bm 10 7) HT_.out ?_
          refine pZ 4 21 (bm 10 23) HT_.out ?_
          refine pZ 5 22 (bm 10 55) HT_.out ?_
          refine pZ 6 23 (bm 10 119) HT_.out ?_
          refine tZ 3 20 (bm 10 127) HT_.out HW_.out hHeld ?_
          refine tZ 7 24 (bm 10 255) HT_.out HW_.out hHeld ?_
          by_cases c8 : t103 = true
          · subst c8
            rw [if_pos rfl] at H
            have H' := Aside0.mk H
            clear H
            refine oZ 8 (some 25) (bm 10 511) HT_.out (fun K hK => ?_)
            refine goesN Tryz.func220 #[.agg #[.int .i64 ((rd_T165 l0 x5_1).f0), .int .i64 ((rd_T165 l0 x5_1).f1), .int .i64 ((rd_T165 l0 x5_1).f2)], .agg #[.int .i64 ((rd_T165 l1 x5_1).f0), .int .i64 ((rd_T165 l1 x5_1).f1), .int .i64 ((rd_T165 l1 x5_1).f2)]] ?_
            with_reducible refine (laws_eqEntry.calls ((rd_T165 l0 x5_1).f0) ((rd_T165 l0 x5_1).f1) ((rd_T165 l0 x5_1).f2) ((rd_T165 l1 x5_1).f0) ((rd_T165 l1 x5_1).f1) ((rd_T165 l1 x5_1).f2) true _ A7.out).mono ?_
            rintro e wx2 ⟨rfl, hb⟩
            refine ⟨_, rfl, ?_⟩
            replace HB := Aside0.mk (below_step (hX HB.out) hb)
            (try clear hb)
            (try clear hb2)
            (try clear hk)
            (try clear hi)
            refine hK.out _ _ ⟨((HB.out.cell (World.block_lt_of_cell? w _ hwx3)).trans hwx3), ((HB.out.cell (World.block_lt_of_cell? w _ hwx2)).trans hwx2), ((HB.out.cell (World.block_lt_of_cell? w _ hwx1)).trans hwx1), ((HB.out.cell (World.block_lt_of_cell? w _ hwx6)).trans hwx6), ((HB.out.cell (World.block_lt_of_cell? w _ hwx5)).trans hwx5), ((HB.out.cell (World.block_lt_of_cell? w _ hwx4)).trans hwx4)⟩ (fun hHeld => ?_)
            clear hK K
            refine nZ 25 ?_
            refine pZ 9 26 (bm 10 1023) HT_.out ?_
            refine done_ (done_of HT_.out (by kernel_rfl)) ?_
            try go_wp2
            go_roundg k1
            case measure => have := HKy1.out; omega
            case rel => exact ⟨(wrap64 (x5_1 + 1)), rS, H', ⟨by have := HKy1.out; omega⟩, ⟨(hX HB.out)⟩⟩
          · replace c8 := Bool.eq_false_iff.mpr c8
            subst c8
            rw [if_neg nft] at H
            obtain rfl := Option.some.inj H
            refine oZ 8 (some 25) (bm 10 511) HT_.out (fun K hK => ?_)
            refine goesN Tryz.func220 #[.agg #[.int .i64 ((rd_T165 l0 x5_1).f0), .int .i64 ((rd_T165 l0 x5_1).f1), .int .i64 ((rd_T165 l0 x5_1).f2)], .agg #[.int .i64 ((rd_T165 l1 x5_1).f0), .int .i64 ((rd_T165 l1 x5_1).f1), .int .i64 ((rd_T165 l1 x5_1).f2)]] ?_
            with_reducible refine (laws_eqEntry.calls ((rd_T165 l0 x5_1).f0) ((rd_T165 l0 x5_1).f1) ((rd_T165 l0 x5_1).f2) ((rd_T165 l1 x5_1).f0) ((rd_T165 l1 x5_1).f1) ((rd_T165 l1 x5_1).f2) false _ A7.out).mono ?_
            rintro e wx2 ⟨rfl, hb⟩
            refine ⟨_, rfl, ?_⟩
            replace HB := Aside0.mk (below_step (hX HB.out) hb)
            (try clear hb)
            (try clear hb2)
            (try clear hk)
            (try clear hi)
            refine hK.out _ _ ⟨((HB.out.cell (World.block_lt_of_cell? w _ hwx3)).trans hwx3), ((HB.out.cell (World.block_lt_of_cell? w _ hwx2)).trans hwx2), ((HB.out.cell (World.block_lt_of_cell? w _ hwx1)).trans hwx1), ((HB.out.cell (World.block_lt_of_cell? w _ hwx6)).trans hwx6), ((HB.out.cell (World.block_lt_of_cell? w _ hwx5)).trans hwx5), ((HB.out.cell (World.block_lt_of_cell? w _ hwx4)).trans hwx4)⟩ (fun hHeld => ?_)
            clear hK K
            refine nZ 25 ?_
            refine pZ 9 26 (bm 10 1023) HT_.out ?_
            refine done_ (done_of HT_.out (by kernel_rfl)) ?_
            try go_wp2
            go_ret
            exact ⟨rE, (hX HB.out)⟩
        · rw [if_neg c4] at H
          have c4b0 := decide_eq_false c4
          clear c4
          obtain rfl := Option.some.inj H
          go_wp2
          go_ret
          exact ⟨rE, (hX HB.out)⟩
  · rw [if_neg c3] at H
    obtain ⟨c3b0, c3b1⟩ := eqF c3
    have c3b2 : (l0.length == l1.length) = false := by first | simpa using c3 | (simp at c3 ⊢; omega)
    obtain rfl := Option.some.inj H
    go_wp2
    go_ret
    exact ⟨rE, (hX HB.out)⟩
end Go.Proofs.YtmljebgideecjaaGreat.P
namespace Go.Proofs.YtmljebgideecjaaGreat.P
open Go.Proofs.YtmljebgideecjaaGreatZ Go.RowKit Go.Proofs.YtmljebgideecjaaGreatW.PrintWords Go.Proofs.YtmljebgideecjaaGreatW.PrintLast Go.Proofs.YtmljebgideecjaaGreatW.PrintMore
attribute [local go_sem] max2_int min2_int max_two min_two max_three min_three max_four min_four   -- for this text's walks alone
set_option linter.unusedVariables false
set_option linter.unusedSimpArgs false
def laws_eqDesc.f (k : Nat) (a0_0 : Int) (a0_1 : Int) (l0_2 : List (S165)) (a0_3 : Int) (l0_4 : List Int) (a1_0 : Int) (a1_1 : Int) (l1_2 : List (S165)) (a1_3 : Int) (l1_4 : List Int) : Option (Bool) := if a0_0 = a1_0 then (if a0_1 = a1_1 then ((laws_eqEntryS.f k l0_2 l1_2).bind fun t103 => (if t103 = true then ((laws_eqRes.f k a0_3 l0_4 a1_3 l1_4).bind fun t104 => (if t104 = true then (some true) else (some false))) else (some false))) else (some false)) else (some false)
set_option maxHeartbeats 8000000 in
set_option maxRecDepth 100000 in
theorem laws_eqDesc.calls (k : Nat) (a0_0 : Int) (a0_1 : Int) (A0_2 : Option Addr) (c0_2 : Nat) (l0_2 : List (S165)) (a0_3 : Int) (A0_4 : Option Addr) (c0_4 : Nat) (l0_4 : List Int) (a1_0 : Int) (a1_1 : Int) (A1_2 : Option Addr) (c1_2 : Nat) (l1_2 : List (S165)) (a1_3 : Int) (A1_4 : Option Addr) (c1_4 : Nat) (l1_4 : List Int) (r : Bool) (w : World) (hr0_2 : Kd.C k165 w A0_2 l0_2.length l0_2) (hc0_2 : l0_2.length ≤ c0_2) (hr0_4 : Kd.C (Kd.int .i64) w A0_4 l0_4.length l0_4) (hc0_4 : l0_4.length ≤ c0_4) (hr1_2 : Kd.C k165 w A1_2 l1_2.length l1_2) (hc1_2 : l1_2.length ≤ c1_2) (hr1_4 : Kd.C (Kd.int .i64) w A1_4 l1_4.length l1_4) (hc1_4 : l1_4.length ≤ c1_4) (h : laws_eqDesc.f k a0_0 a0_1 l0_2 a0_3 l0_4 a1_0 a1_1 l1_2 a1_3 l1_4 = some r) :
    Calls Tryz.prog 187 #[.agg #[.int .i64 a0_0, .int .i64 a0_1, .slice A0_2 l0_2.length c0_2, .int .i64 a0_3, .slice A0_4 l0_4.length c0_4], .agg #[.int .i64 a1_0, .int .i64 a1_1, .slice A1_2 l1_2.length c1_2, .int .i64 a1_3, .slice A1_4 l1_4.length c1_4]] w fun e w' => e = .returned (.bool r) ∧ Below w.heap.size w w' := by
  have hu162 := Tryz.underlying162
  have hu71 := Tryz.underlying71
  have HR0_2 := Aside0.mk hr0_2
  have HC0_2 := Aside0.mk hc0_2
  clear hr0_2 hc0_2
  have HR0_4 := Aside0.mk hr0_4
  have HC0_4 := Aside0.mk hc0_4
  clear hr0_4 hc0_4
  have HR1_2 := Aside0.mk hr1_2
  have HC1_2 := Aside0.mk hc1_2
  clear hr1_2 hc1_2
  have HR1_4 := Aside0.mk hr1_4
  have HC1_4 := Aside0.mk hc1_4
  clear hr1_4 hc1_4
  have HB := Aside0.mk (Below.refl w.heap.size w)
  have H := h
  unfold laws_eqDesc.f at H
  clear h
  go_enter Tryz.func187, Tryz.ntmps187
  go_wp2_with (first | (refine boxE 2 #[.int .i64 a0_0, .int .i64 a0_1, .slice A0_2 l0_2.length c0_2, .int .i64 a0_3, .slice A0_4 l0_4.length c0_4] 162 ?_; intro gbz1 hg wz1 hbox hb; have BKz1 := Aside0.mk (hbox); have GWz1 := Aside0.mk (gX' hg (hX HB.out)); have GEz1 := Aside0.mk (gX' hg (hX HB.out)); replace HB := Aside0.mk (below_step (hX HB.out) hb); clear hb hbox hg) | (refine boxE 3 #[.int .i64 a1_0, .int .i64 a1_1, .slice A1_2 l1_2.length c1_2, .int .i64 a1_3, .slice A1_4 l1_4.length c1_4] 162 ?_; intro gbz2 hg wz2 hbox hb; have BKz2 := Aside0.mk (hbox); have GWz2 := Aside0.mk (gX' hg (hX HB.out)); have GEz2 := Aside0.mk (gX' hg (hX HB.out)); have NBz1 := Aside0.mk (gL hg (bX BKz1.out)); have NBz2 := Aside0.mk (gG hg (bX BKz1.out)); replace BKz1 := Aside0.mk (blk_below (bX BKz1.out) hb); replace HB := Aside0.mk (below_step (hX HB.out) hb); clear hb hbox hg; have hnbz1 := NBz1.out; have hncz1 := NBz2.out; obtain ⟨hczz1, hczz2, hczz3, hczz4, hczz5, hfzz1, hfzz2, hfzz3, hfzz4, hfzz5⟩ := cZ5 BKz1.out; obtain ⟨hczz6, hczz7, hczz8, hczz9, hczz10, hfzz6, hfzz7, hfzz8, hfzz9, hfzz10⟩ := cZ5 BKz2.out; refine Stop.out ?_))
  refine ⟨?_⟩
  by_cases c3 : a0_0 = a1_0
  · rw [if_pos c3] at H
    obtain ⟨c3b0, c3b1⟩ := eqT c3
    clear c3
    by_cases c4 : a0_1 = a1_1
    · rw [if_pos c4] at H
      obtain ⟨c4b0, c4b1⟩ := eqT c4
      clear c4
      replace H := bE H; obtain ⟨t103, A5, H⟩ := H
      by_cases c6 : t103 = true
      · subst c6
        rw [if_pos rfl] at H
        replace H := bE H; obtain ⟨t104, A7, H⟩ := H
        go_wp2_with (first | (refine goesM 213 19 Tryz.func213 #[.slice A0_2 l0_2.length c0_2, .slice A1_2 l1_2.length c1_2] ?_; refine (laws_eqEntryS.calls k _ _ l0_2 _ _ l1_2 true _ (cC HR0_2.out HB.out) HC0_2.out (cC HR1_2.out HB.out) HC1_2.out A5.out).mono ?_; rintro e wz3 ⟨rfl, hb⟩; refine ⟨_, rfl, ?_⟩; replace BKz1 := Aside0.mk (blk_below (bX BKz1.out) hb); replace BKz2 := Aside0.mk (blk_below (bX BKz2.out) hb); replace HB := Aside0.mk (below_step (hX HB.out) hb); clear hb; obtain ⟨hczz11, hczz12, hczz13, hczz14, hczz15, hfzz11, hfzz12, hfzz13, hfzz14, hfzz15⟩ := cZ5 BKz1.out; obtain ⟨hczz16, hczz17, hczz18, hczz19, hczz20, hfzz16, hfzz17, hfzz18, hfzz19, hfzz20⟩ := cZ5 BKz2.out; refine Stop.out ?_))
        refine ⟨?_⟩
        by_cases c8 : t104 = true
        · subst c8
          rw [if_pos rfl] at H
          obtain rfl := Option.some.inj H
          go_wp2_with (first | (refine goesM 190 25 Tryz.func190 #[.agg #[.int .i64 a0_3, .slice A0_4 l0_4.length c0_4], .agg #[.int .i64 a1_3, .slice A1_4 l1_4.length c1_4]] ?_; refine (laws_eqRes.calls k a0_3 _ _ l0_4 a1_3 _ _ l1_4 true _ (cC HR0_4.out HB.out) HC0_4.out (cC HR1_4.out HB.out) HC1_4.out A7.out).mono ?_; rintro e wz4 ⟨rfl, hb⟩; refine ⟨_, rfl, ?_⟩; replace BKz1 := Aside0.mk (blk_below (bX BKz1.out) hb); replace BKz2 := Aside0.mk (blk_below (bX BKz2.out) hb); replace HB := Aside0.mk (below_step (hX HB.out) hb); clear hb))
          go_ret
          exact ⟨rE, (hX HB.out)⟩
        · replace c8 := Bool.eq_false_iff.mpr c8
          subst c8
          rw [if_neg nft] at H
          obtain rfl := Option.some.inj H
          go_wp2_with (first | (refine goesM 190 25 Tryz.func190 #[.agg #[.int .i64 a0_3, .slice A0_4 l0_4.length c0_4], .agg #[.int .i64 a1_3, .slice A1_4 l1_4.length c1_4]] ?_; refine (laws_eqRes.calls k a0_3 _ _ l0_4 a1_3 _ _ l1_4 false _ (cC HR0_4.out HB.out) HC0_4.out (cC HR1_4.out HB.out) HC1_4.out A7.out).mono ?_; rintro e wz4 ⟨rfl, hb⟩; refine ⟨_, rfl, ?_⟩; replace BKz1 := Aside0.mk (blk_below (bX BKz1.out) hb); replace BKz2 := Aside0.mk (blk_below (bX BKz2.out) hb); replace HB := Aside0.mk (below_step (hX HB.out) hb); clear hb))
          go_ret
          exact ⟨rE, (hX HB.out)⟩
      · replace c6 := Bool.eq_false_iff.mpr c6
        subst c6
        rw [if_neg nft] at H
        obtain rfl := Option.some.inj H
        go_wp2_with (first | (refine goesM 213 19 Tryz.func213 #[.slice A0_2 l0_2.length c0_2, .slice A1_2 l1_2.length c1_2] ?_; refine (laws_eqEntryS.calls k _ _ l0_2 _ _ l1_2 false _ (cC HR0_2.out HB.out) HC0_2.out (cC HR1_2.out HB.out) HC1_2.out A5.out).mono ?_; rintro e wz3 ⟨rfl, hb⟩; refine ⟨_, rfl, ?_⟩; replace BKz1 := Aside0.mk (blk_below (bX BKz1.out) hb); replace BKz2 := Aside0.mk (blk_below (bX BKz2.out) hb); replace HB := Aside0.mk (below_step (hX HB.out) hb); clear hb))
        go_ret
        exact ⟨rE, (hX HB.out)⟩
    · rw [if_neg c4] at H
      obtain ⟨c4b0, c4b1⟩ := eqF c4
      obtain rfl := Option.some.inj H
      go_wp2
      go_ret
      exact ⟨rE, (hX HB.out)⟩
  · rw [if_neg c3] at H
    obtain ⟨c3b0, c3b1⟩ := eqF c3
    obtain rfl := Option.some.inj H
    go_wp2
    go_ret
    exact ⟨rE, (hX HB.out)⟩
end Go.Proofs.YtmljebgideecjaaGreat.P
namespace Go.Proofs.YtmljebgideecjaaGreat.P
open Go.Proofs.YtmljebgideecjaaGreatZ Go.RowKit Go.Proofs.YtmljebgideecjaaGreatW.PrintWords Go.Proofs.YtmljebgideecjaaGreatW.PrintLast Go.Proofs.YtmljebgideecjaaGreatW.PrintMore
attribute [local go_sem] max2_int min2_int max_two min_two max_three min_three max_four min_four   -- for this text's walks alone
set_option linter.unusedVariables false
set_option linter.unusedSimpArgs false
def laws_eqDescS.l0 : Nat → List (S162) → List (S162) → Int → Option (Bool)
  | 0, _, _, _ => none
  | k + 1, x0, x1, x5 => if x5 < (x0.length : Int) then (if 0 ≤ x5 then (if x5 < (x1.length : Int) then ((laws_eqDesc.f k ((rd_T162 x0 x5).f0) ((rd_T162 x0 x5).f1) ((rd_T162 x0 x5).f2) ((rd_T162 x0 x5).f3.f0) ((rd_T162 x0 x5).f3.f1) ((rd_T162 x1 x5).f0) ((rd_T162 x1 x5).f1) ((rd_T162 x1 x5).f2) ((rd_T162 x1 x5).f3.f0) ((rd_T162 x1 x5).f3.f1)).bind fun t103 => (if t103 = true then (laws_eqDescS.l0 k x0 x1 (wrap64 (x5 + 1))) else (some false))) else (none)) else (none)) else (some true)
def laws_eqDescS.f (k : Nat) (l0 : List (S162)) (l1 : List (S162)) : Option (Bool) := if (l0.length : Int) = (l1.length : Int) then (laws_eqDescS.l0 k l0 l1 0) else (some false)
def laws_eqDescS.T6 : Bool × List (List Nat × List Nat) := (true, [([], []), ([], []), ([0, 1], [0, 1]), ([2], [2]), ([], []), ([], []), ([4, 5], [4, 5]), ([6], [6]), ([3, 7], [3, 7]), ([8], [8])])
def laws_eqDescS.B6 : List Nat := [0, 0, 3, 7, 0, 0, 48, 112, 255, 511]
theorem laws_eqDescS.tab6 : rtab .any (opsOf Tryz.f110 6) = laws_eqDescS.T6 := by kernel_rfl
theorem laws_eqDescS.bits6 : waitsOk laws_eqDescS.T6.2 laws_eqDescS.B6 = true := by kernel_rfl
set_option maxHeartbeats 8000000 in
set_option maxRecDepth 100000 in
theorem laws_eqDescS.calls (k : Nat) (A0 : Option Addr) (c0 : Nat) (l0 : List (S162)) (A1 : Option Addr) (c1 : Nat) (l1 : List (S162)) (r : Bool) (w : World) (hr0 : Kd.C k162 w A0 l0.length l0) (hc0 : l0.length ≤ c0) (hr1 : Kd.C k162 w A1 l1.length l1) (hc1 : l1.length ≤ c1) (h : laws_eqDescS.f k l0 l1 = some r) :
    Calls Tryz.prog 110 #[.slice A0 l0.length c0, .slice A1 l1.length c1] w fun e w' => e = .returned (.bool r) ∧ Below w.heap.size w w' := by
  have hu162 := Tryz.underlying162
  have HR0 := Aside0.mk hr0
  have HC0 := Aside0.mk hc0
  clear hr0 hc0
  have HR1 := Aside0.mk hr1
  have HC1 := Aside0.mk hc1
  clear hr1 hc1
  have HB := Aside0.mk (Below.refl w.heap.size w)
  have H := h
  unfold laws_eqDescS.f at H
  clear h
  go_enter Tryz.func110, Tryz.ntmps110
  by_cases c3 : (l0.length : Int) = (l1.length : Int)
  · rw [if_pos c3] at H
    obtain ⟨c3b0, c3b1⟩ := eqT c3
    have c3b2 : (l0.length == l1.length) = true := by first | simpa using c3 | (simp at c3 ⊢; omega)
    clear c3
    have H' := Aside0.mk H
    clear H
    go_wp2
    go_loopg [5] k (fun kq v5 w' => ∃ (x5_1 : Int), v5 = .int .i64 x5_1 ∧ Aside0 (laws_eqDescS.l0 kq l0 l1 x5_1 = some r) ∧ Aside0 (kq ≤ k) ∧ Aside0 (Below w.heap.size w w'))
    case atStart => exact ⟨(0), rS, H', ⟨Nat.le_refl _⟩, ⟨(hX HB.out)⟩⟩
    case round =>
      clear H'
      try clear c1
      try clear p2
      try clear c3
      try clear c3b0
      try clear c3b1
      try clear c3b2
      obtain ⟨x5_1, rfl, HA, HKy1, HB⟩ := hrel
      cases gk with
      | zero => exact absurd HA.out (by simp [laws_eqDescS.l0])
      | succ k1 =>
        have H := HA.out
        clear HA
        simp only [laws_eqDescS.l0] at H
        by_cases c4 : x5_1 < (l0.length : Int)
        · rw [if_pos c4] at H
          have c4b0 := decide_eq_true c4
          clear c4
          replace H := ifP H; obtain ⟨c5, H⟩ := H
          have c5b0 := decide_eq_true c5
          clear c5
          replace H := ifP H; obtain ⟨c6, H⟩ := H
          have c6b0 := decide_eq_true c6
          clear c6
          replace H := bE H; obtain ⟨t103, A7, H⟩ := H
          try go_wp2
          replace HB := Aside0.mk (below_drew1 HB.out)
          have px1 : 0 ≤ (x5_1 : Int) := of_decide_eq_true (by first | (with_reducible assumption) | assumption)
          have qx1 : x5_1 < (l0.length : Int) := of_decide_eq_true (by first | (with_reducible assumption) | assumption)
          obtain ⟨adx1, Ax1, cx1, Ax2, cx2, ex1, hxx1, hxx2, hxx3, hxx4, hxx5, hlx1, hix1, hlx2, hix2⟩ := at_T162 HR0.out x5_1 px1 qx1
          have hwx1 := hxx5
          have hwx2 := hxx4
          have hwx3 := hxx3
          have hwx4 := hxx2
          have hwx5 := hxx1
          cases ex1
          replace hxx1 := (HB.out.cell (World.block_lt_of_cell? w _ hxx1)).trans hxx1
          replace hxx2 := (HB.out.cell (World.block_lt_of_cell? w _ hxx2)).trans hxx2
          replace hxx3 := (HB.out.cell (World.block_lt_of_cell? w _ hxx3)).trans hxx3
          replace hxx4 := (HB.out.cell (World.block_lt_of_cell? w _ hxx4)).trans hxx4
          replace hxx5 := (HB.out.cell (World.block_lt_of_cell? w _ hxx5)).trans hxx5
          have HRx1 := Aside0.mk hix1
          have HCx1 := Aside0.mk hlx1
          clear hix1 hlx1
          have HRx2 := Aside0.mk hix2
          have HCx2 := Aside0.mk hlx2
          clear hix2 hlx2
          replace px1 := eq_true px1
          replace qx1 := eq_true qx1
          have px2 : 0 ≤ (x5_1 : Int) := of_decide_eq_true (by first | (with_reducible assumption) | assumption)
          have qx2 : x5_1 < (l1.length : Int) := of_decide_eq_true (by first | (with_reducible assumption) | assumption)
          obtain ⟨adx2, Ax3, cx3, Ax4, cx4, ex2, hxx6, hxx7, hxx8, hxx9, hxx10, hlx3, hix3, hlx4, hix4⟩ := at_T162 HR1.out x5_1 px2 qx2
          have hwx6 := hxx10
          have hwx7 := hxx9
          have hwx8 := hxx8
          have hwx9 := hxx7
          have hwx10 := hxx6
          cases ex2
          replace hxx6 := (HB.out.cell (World.block_lt_of_cell? w _ hxx6)).trans hxx6
          replace hxx7 := (HB.out.cell (World.block_lt_of_cell? w _ hxx7)).trans hxx7
          replace hxx8 := (HB.out.cell (World.block_lt_of_cell? w _ hxx8)).trans hxx8
          replace hxx9 := (HB.out.cell (World.block_lt_of_cell? w _ hxx9)).trans hxx9
          replace hxx10 := (HB.out.cell (World.block_lt_of_cell? w _ hxx10)).trans hxx10
          have HRx3 := Aside0.mk hix3
          have HCx3 := Aside0.mk hlx3
          clear hix3 hlx3
          have HRx4 := Aside0.mk hix4
          have HCx4 := Aside0.mk hlx4
          clear hix4 hlx4
          replace px2 := eq_true px2
          replace qx2 := eq_true qx2
          refine start_ (n := 10) (S := fun w' => w'.cell? (adx1.add ((x5_1).toNat * 5)) = some (.int .i64 ((rd_T162 l0 x5_1).f0)) ∧ w'.cell? ⟨(adx1.add ((x5_1).toNat * 5)).block, (adx1.add ((x5_1).toNat * 5)).off + 1, none⟩ = some (.int .i64 ((rd_T162 l0 x5_1).f1)) ∧ w'.cell? ⟨(adx1.add ((x5_1).toNat * 5)).block, (adx1.add ((x5_1).toNat * 5)).off + 2, none⟩ = some (.slice Ax1 ((rd_T162 l0 x5_1).f2).length cx1) ∧ w'.cell? ⟨(adx1.add ((x5_1).toNat * 5)).block, (adx1.add ((x5_1).toNat * 5)).off + 3, none⟩ = some (.int .i64 ((rd_T162 l0 x5_1).f3.f0)) ∧ w'.cell? ⟨(adx1.add ((x5_1).toNat * 5)).block, (adx1.add ((x5_1).toNat * 5)).off + 4, none⟩ = some (.slice Ax2 ((rd_T162 l0 x5_1).f3.f1).length cx2) ∧ w'.cell? (adx2.add ((x5_1).toNat * 5)) = some (.int .i64 ((rd_T162 l1 x5_1).f0)) ∧ w'.cell? ⟨(adx2.add ((x5_1).toNat * 5)).block, (adx2.add ((x5_1).toNat * 5)).off + 1, none⟩ = some (.int .i64 ((rd_T162 l1 x5_1).f1)) ∧ w'.cell? ⟨(adx2.add ((x5_1).toNat * 5)).block, (adx2.add ((x5_1).toNat * 5)).off + 2, none⟩ = some (.slice Ax3 ((rd_T162 l1 x5_1).f2).length cx3) ∧ w'.cell? ⟨(adx2.add ((x5_1).toNat * 5)).block, (adx2.add ((x5_1).toNat * 5)).off + 3, none⟩ = some (.int .i64 ((rd_T162 l1 x5_1).f3.f0)) ∧ w'.cell? ⟨(adx2.add ((x5_1).toNat * 5)).block, (adx2.add ((x5_1).toNat * 5)).off + 4, none⟩ = some (.slice Ax4 ((rd_T162 l1 x5_1).f3.f1).length cx4)) (ds := []) (bm 10 0) (by kernel_rfl) rfl (by kernel_rfl) ⟨((HB.out.cell (World.block_lt_of_cell? w _ hwx5)).trans hwx5), ((HB.out.cell (World.block_lt_of_cell? w _ hwx4)).trans hwx4), ((HB.out.cell (World.block_lt_of_cell? w _ hwx3)).trans hwx3), ((HB.out.cell (World.block_lt_of_cell? w _ hwx2)).trans hwx2), ((HB.out.cell (World.block_lt_of_cell? w _ hwx1)).trans hwx1), ((HB.out.cell (World.block_lt_of_cell? w _ hwx10)).trans hwx10), ((HB.out.cell (World.block_lt_of_cell? w _ hwx9)).trans hwx9), ((HB.out.cell (World.block_lt_of_cell? w _ hwx8)).trans hwx8), ((HB.out.cell (World.block_lt_of_cell? w _ hwx7)).trans hwx7), ((HB.out.cell (World.block_lt_of_cell? w _ hwx6)).trans hwx6)⟩ (fun hHeld => ?_); refine with_tabW laws_eqDescS.tab6 laws_eqDescS.bits6 (fun HT_ HW_ => ?_)
          generalize wr.drew = wx1 at HB HRx1 HRx2 HRx3 HRx4 hxx1 hxx2 hxx3 hxx4 hxx5 hxx6 hxx7 hxx8 hxx9 hxx10 hHeld ⊢
          refine pZ 0 17 (bm 10 1) HT_.out ?_
          refine pZ 1 18 (bm 10 3) HT_.out ?_
          refine pZ 2 19 (bm 10 7) HT_.out ?_
          refine pZ 4 21 (bm 10 23) HT_.out ?_
          refine pZ 5 22 (bm 10 55) HT_.out ?_
          refine pZ 6 23 (bm 10 119) HT_.out ?_
          refine tZ 3 20 (bm 10 127) HT_.out HW_.out hHeld ?_
          refine tZ 7 24 (bm 10 255) HT_.out HW_.out hHeld ?_
          by_cases c8 : t103 = true
          · subst c8
            rw [if_pos rfl] at H
            have H' := Aside0.mk H
            clear H
            refine oZ 8 (some 25) (bm 10 511) HT_.out (fun K hK => ?_)
            refine goesN Tryz.func187 #[.agg #[.int .i64 ((rd_T162 l0 x5_1).f0), .int .i64 ((rd_T162 l0 x5_1).f1), .slice Ax1 ((rd_T162 l0 x5_1).f2).length cx1, .int .i64 ((rd_T162 l0 x5_1).f3.f0), .slice Ax2 ((rd_T162 l0 x5_1).f3.f1).length cx2], .agg #[.int .i64 ((rd_T162 l1 x5_1).f0), .int .i64 ((rd_T162 l1 x5_1).f1), .slice Ax3 ((rd_T162 l1 x5_1).f2).length cx3, .int .i64 ((rd_T162 l1 x5_1).f3.f0), .slice Ax4 ((rd_T162 l1 x5_1).f3.f1).length cx4]] ?_
            with_reducible refine (laws_eqDesc.calls k1 ((rd_T162 l0 x5_1).f0) ((rd_T162 l0 x5_1).f1) _ _ ((rd_T162 l0 x5_1).f2) ((rd_T162 l0 x5_1).f3.f0) _ _ ((rd_T162 l0 x5_1).f3.f1) ((rd_T162 l1 x5_1).f0) ((rd_T162 l1 x5_1).f1) _ _ ((rd_T162 l1 x5_1).f2) ((rd_T162 l1 x5_1).f3.f0) _ _ ((rd_T162 l1 x5_1).f3.f1) true _ ?side1 ?side2 ?side3 ?side4 ?side5 ?side6 ?side7 ?side8 A7.out).mono ?_
            (case side1 => repeat (first | exact (Kd.C_below HRx1.out HB.out) | (with_reducible refine Kd.C_alloc ?_ _) | (with_reducible refine Kd.C_drewN ?_ _) | (with_reducible refine Kd.C_drew ?_)))
            (case side2 => exact HCx1.out)
            (case side3 => repeat (first | exact (Kd.C_below HRx2.out HB.out) | (with_reducible refine Kd.C_alloc ?_ _) | (with_reducible refine Kd.C_drewN ?_ _) | (with_reducible refine Kd.C_drew ?_)))
            (case side4 => exact HCx2.out)
            (case side5 => repeat (first | exact (Kd.C_below HRx3.out HB.out) | (with_reducible refine Kd.C_alloc ?_ _) | (with_reducible refine Kd.C_drewN ?_ _) | (with_reducible refine Kd.C_drew ?_)))
            (case side6 => exact HCx3.out)
            (case side7 => repeat (first | exact (Kd.C_below HRx4.out HB.out) | (with_reducible refine Kd.C_alloc ?_ _) | (with_reducible refine Kd.C_drewN ?_ _) | (with_reducible refine Kd.C_drew ?_)))
            (case side8 => exact HCx4.out)
            rintro e wx2 ⟨rfl, hb⟩
            refine ⟨_, rfl, ?_⟩
            replace HB := Aside0.mk (below_step (hX HB.out) hb)
            (try clear hb)
            (try clear hb2)
            (try clear hk)
            (try clear hi)
            refine hK.out _ _ ⟨((HB.out.cell (World.block_lt_of_cell? w _ hwx5)).trans hwx5), ((HB.out.cell (World.block_lt_of_cell? w _ hwx4)).trans hwx4), ((HB.out.cell (World.block_lt_of_cell? w _ hwx3)).trans hwx3), ((HB.out.cell (World.block_lt_of_cell? w _ hwx2)).trans hwx2), ((HB.out.cell (World.block_lt_of_cell? w _ hwx1)).trans hwx1), ((HB.out.cell (World.block_lt_of_cell? w _ hwx10)).trans hwx10), ((HB.out.cell (World.block_lt_of_cell? w _ hwx9)).trans hwx9), ((HB.out.cell (World.block_lt_of_cell? w _ hwx8)).trans hwx8), ((HB.out.cell (World.block_lt_of_cell? w _ hwx7)).trans hwx7), ((HB.out.cell (World.block_lt_of_cell? w _ hwx6)).trans hwx6)⟩ (fun hHeld => ?_)
            clear hK K
            refine nZ 25 ?_
            refine pZ 9 26 (bm 10 1023) HT_.out ?_
            refine done_ (done_of HT_.out (by kernel_rfl)) ?_
            try go_wp2
            go_roundg k1
            case measure => have := HKy1.out; omega
            case rel => exact ⟨(wrap64 (x5_1 + 1)), rS, H', ⟨by have := HKy1.out; omega⟩, ⟨(hX HB.out)⟩⟩
          · replace c8 := Bool.eq_false_iff.mpr c8
            subst c8
            rw [if_neg nft] at H
            obtain rfl := Option.some.inj H
            refine oZ 8 (some 25) (bm 10 511) HT_.out (fun K hK => ?_)
            refine goesN Tryz.func187 #[.agg #[.int .i64 ((rd_T162 l0 x5_1).f0), .int .i64 ((rd_T162 l0 x5_1).f1), .slice Ax1 ((rd_T162 l0 x5_1).f2).length cx1, .int .i64 ((rd_T162 l0 x5_1).f3.f0), .slice Ax2 ((rd_T162 l0 x5_1).f3.f1).length cx2], .agg #[.int .i64 ((rd_T162 l1 x5_1).f0), .int .i64 ((rd_T162 l1 x5_1).f1), .slice Ax3 ((rd_T162 l1 x5_1).f2).length cx3, .int .i64 ((rd_T162 l1 x5_1).f3.f0), .slice Ax4 ((rd_T162 l1 x5_1).f3.f1).length cx4]] ?_
            with_reducible refine (laws_eqDesc.calls k1 ((rd_T162 l0 x5_1).f0) ((rd_T162 l0 x5_1).f1) _ _ ((rd_T162 l0 x5_1).f2) ((rd_T162 l0 x5_1).f3.f0) _ _ ((rd_T162 l0 x5_1).f3.f1) ((rd_T162 l1 x5_1).f0) ((rd_T162 l1 x5_1).f1) _ _ ((rd_T162 l1 x5_1).f2) ((rd_T162 l1 x5_1).f3.f0) _ _ ((rd_T162 l1 x5_1).f3.f1) false _ ?side1 ?side2 ?side3 ?side4 ?side5 ?side6 ?side7 ?side8 A7.out).mono ?_
            (case side1 => repeat (first | exact (Kd.C_below HRx1.out HB.out) | (with_reducible refine Kd.C_alloc ?_ _) | (with_reducible refine Kd.C_drewN ?_ _) | (with_reducible refine Kd.C_drew ?_)))
            (case side2 => exact HCx1.out)
            (case side3 => repeat (first | exact (Kd.C_below HRx2.out HB.out) | (with_reducible refine Kd.C_alloc ?_ _) | (with_reducible refine Kd.C_drewN ?_ _) | (with_reducible refine Kd.C_drew ?_)))
            (case side4 => exact HCx2.out)
            (case side5 => repeat (first | exact (Kd.C_below HRx3.out HB.out) | (with_reducible refine Kd.C_alloc ?_ _) | (with_reducible refine Kd.C_drewN ?_ _) | (with_reducible refine Kd.C_drew ?_)))
            (case side6 => exact HCx3.out)
            (case side7 => repeat (first | exact (Kd.C_below HRx4.out HB.out) | (with_reducible refine Kd.C_alloc ?_ _) | (with_reducible refine Kd.C_drewN ?_ _) | (with_reducible refine Kd.C_drew ?_)))
            (case side8 => exact HCx4.out)
            rintro e wx2 ⟨rfl, hb⟩
            refine ⟨_, rfl, ?_⟩
            replace HB := Aside0.mk (below_step (hX HB.out) hb)
            (try clear hb)
            (try clear hb2)
            (try clear hk)
            (try clear hi)
            refine hK.out _ _ ⟨((HB.out.cell (World.block_lt_of_cell? w _ hwx5)).trans hwx5), ((HB.out.cell (World.block_lt_of_cell? w _ hwx4)).trans hwx4), ((HB.out.cell (World.block_lt_of_cell? w _ hwx3)).trans hwx3), ((HB.out.cell (World.block_lt_of_cell? w _ hwx2)).trans hwx2), ((HB.out.cell (World.block_lt_of_cell? w _ hwx1)).trans hwx1), ((HB.out.cell (World.block_lt_of_cell? w _ hwx10)).trans hwx10), ((HB.out.cell (World.block_lt_of_cell? w _ hwx9)).trans hwx9), ((HB.out.cell (World.block_lt_of_cell? w _ hwx8)).trans hwx8), ((HB.out.cell (World.block_lt_of_cell? w _ hwx7)).trans hwx7), ((HB.out.cell (World.block_lt_of_cell? w _ hwx6)).trans hwx6)⟩ (fun hHeld => ?_)
            clear hK K
            refine nZ 25 ?_
            refine pZ 9 26 (bm 10 1023) HT_.out ?_
            refine done_ (done_of HT_.out (by kernel_rfl)) ?_
            try go_wp2
            go_ret
            exact ⟨rE, (hX HB.out)⟩
        · rw [if_neg c4] at H
          have c4b0 := decide_eq_false c4
          clear c4
          obtain rfl := Option.some.inj H
          go_wp2
          go_ret
          exact ⟨rE, (hX HB.out)⟩
  · rw [if_neg c3] at H
    obtain ⟨c3b0, c3b1⟩ := eqF c3
    have c3b2 : (l0.length == l1.length) = false := by first | simpa using c3 | (simp at c3 ⊢; omega)
    obtain rfl := Option.some.inj H
    go_wp2
    go_ret
    exact ⟨rE, (hX HB.out)⟩
end Go.Proofs.YtmljebgideecjaaGreat.P
namespace Go.Proofs.YtmljebgideecjaaGreat.P
open Go.Proofs.YtmljebgideecjaaGreatZ Go.RowKit Go.Proofs.YtmljebgideecjaaGreatW.PrintWords Go.Proofs.YtmljebgideecjaaGreatW.PrintLast Go.Proofs.YtmljebgideecjaaGreatW.PrintMore
attribute [local go_sem] max2_int min2_int max_two min_two max_three min_three max_four min_four   -- for this text's walks alone
set_option linter.unusedVariables false
set_option linter.unusedSimpArgs false
def laws_eqMem.f (k : Nat) (l0_0 : List (S140)) (l0_1 : List (S162)) (l1_0 : List (S140)) (l1_1 : List (S162)) : Option (Bool) := (laws_eqWordS.f k l0_0 l1_0).bind fun t103 => (if t103 = true then ((laws_eqDescS.f k l0_1 l1_1).bind fun t104 => (if t104 = true then (some true) else (some false))) else (some false))
set_option maxHeartbeats 8000000 in
set_option maxRecDepth 100000 in
theorem laws_eqMem.calls (k : Nat) (A0_0 : Option Addr) (c0_0 : Nat) (l0_0 : List (S140)) (A0_1 : Option Addr) (c0_1 : Nat) (l0_1 : List (S162)) (A1_0 : Option Addr) (c1_0 : Nat) (l1_0 : List (S140)) (A1_1 : Option Addr) (c1_1 : Nat) (l1_1 : List (S162)) (r : Bool) (w : World) (hr0_0 : Kd.C k140 w A0_0 l0_0.length l0_0) (hc0_0 : l0_0.length ≤ c0_0) (hr0_1 : Kd.C k162 w A0_1 l0_1.length l0_1) (hc0_1 : l0_1.length ≤ c0_1) (hr1_0 : Kd.C k140 w A1_0 l1_0.length l1_0) (hc1_0 : l1_0.length ≤ c1_0) (hr1_1 : Kd.C k162 w A1_1 l1_1.length l1_1) (hc1_1 : l1_1.length ≤ c1_1) (h : laws_eqMem.f k l0_0 l0_1 l1_0 l1_1 = some r) :
    Calls Tryz.prog 50 #[.agg #[.slice A0_0 l0_0.length c0_0, .slice A0_1 l0_1.length c0_1], .agg #[.slice A1_0 l1_0.length c1_0, .slice A1_1 l1_1.length c1_1]] w fun e w' => e = .returned (.bool r) ∧ Below w.heap.size w w' := by
  have hu38 := Tryz.underlying38
  have HR0_0 := Aside0.mk hr0_0
  have HC0_0 := Aside0.mk hc0_0
  clear hr0_0 hc0_0
  have HR0_1 := Aside0.mk hr0_1
  have HC0_1 := Aside0.mk hc0_1
  clear hr0_1 hc0_1
  have HR1_0 := Aside0.mk hr1_0
  have HC1_0 := Aside0.mk hc1_0
  clear hr1_0 hc1_0
  have HR1_1 := Aside0.mk hr1_1
  have HC1_1 := Aside0.mk hc1_1
  clear hr1_1 hc1_1
  have HB := Aside0.mk (Below.refl w.heap.size w)
  have H := h
  unfold laws_eqMem.f at H
  clear h
  replace H := bE H; obtain ⟨t103, A3, H⟩ := H
  go_enter Tryz.func50, Tryz.ntmps50
  go_wp2_with (first | (refine boxE 2 #[.slice A0_0 l0_0.length c0_0, .slice A0_1 l0_1.length c0_1] 38 ?_; intro gbz1 hg wz1 hbox hb; have BKz1 := Aside0.mk (hbox); have GWz1 := Aside0.mk (gX' hg (hX HB.out)); have GEz1 := Aside0.mk (gX' hg (hX HB.out)); replace HB := Aside0.mk (below_step (hX HB.out) hb); clear hb hbox hg) | (refine boxE 3 #[.slice A1_0 l1_0.length c1_0, .slice A1_1 l1_1.length c1_1] 38 ?_; intro gbz2 hg wz2 hbox hb; have BKz2 := Aside0.mk (hbox); have GWz2 := Aside0.mk (gX' hg (hX HB.out)); have GEz2 := Aside0.mk (gX' hg (hX HB.out)); have NBz1 := Aside0.mk (gL hg (bX BKz1.out)); have NBz2 := Aside0.mk (gG hg (bX BKz1.out)); replace BKz1 := Aside0.mk (blk_below (bX BKz1.out) hb); replace HB := Aside0.mk (below_step (hX HB.out) hb); clear hb hbox hg; have hnbz1 := NBz1.out; have hncz1 := NBz2.out; obtain ⟨hczz1, hczz2, hfzz1, hfzz2⟩ := cZ2 BKz1.out; obtain ⟨hczz3, hczz4, hfzz3, hfzz4⟩ := cZ2 BKz2.out; refine Stop.out ?_))
  refine ⟨?_⟩
  by_cases c4 : t103 = true
  · subst c4
    rw [if_pos rfl] at H
    replace H := bE H; obtain ⟨t104, A5, H⟩ := H
    go_wp2_with (first | (refine goesM 109 9 Tryz.func109 #[.slice A0_0 l0_0.length c0_0, .slice A1_0 l1_0.length c1_0] ?_; refine (laws_eqWordS.calls k _ _ l0_0 _ _ l1_0 true _ (cC HR0_0.out HB.out) HC0_0.out (cC HR1_0.out HB.out) HC1_0.out A3.out).mono ?_; rintro e wz3 ⟨rfl, hb⟩; refine ⟨_, rfl, ?_⟩; replace BKz1 := Aside0.mk (blk_below (bX BKz1.out) hb); replace BKz2 := Aside0.mk (blk_below (bX BKz2.out) hb); replace HB := Aside0.mk (below_step (hX HB.out) hb); clear hb; obtain ⟨hczz5, hczz6, hfzz5, hfzz6⟩ := cZ2 BKz1.out; obtain ⟨hczz7, hczz8, hfzz7, hfzz8⟩ := cZ2 BKz2.out; refine Stop.out ?_))
    refine ⟨?_⟩
    by_cases c6 : t104 = true
    · subst c6
      rw [if_pos rfl] at H
      obtain rfl := Option.some.inj H
      go_wp2_with (first | (refine goesM 110 15 Tryz.func110 #[.slice A0_1 l0_1.length c0_1, .slice A1_1 l1_1.length c1_1] ?_; refine (laws_eqDescS.calls k _ _ l0_1 _ _ l1_1 true _ (cC HR0_1.out HB.out) HC0_1.out (cC HR1_1.out HB.out) HC1_1.out A5.out).mono ?_; rintro e wz4 ⟨rfl, hb⟩; refine ⟨_, rfl, ?_⟩; replace BKz1 := Aside0.mk (blk_below (bX BKz1.out) hb); replace BKz2 := Aside0.mk (blk_below (bX BKz2.out) hb); replace HB := Aside0.mk (below_step (hX HB.out) hb); clear hb))
      go_ret
      exact ⟨rE, (hX HB.out)⟩
    · replace c6 := Bool.eq_false_iff.mpr c6
      subst c6
      rw [if_neg nft] at H
      obtain rfl := Option.some.inj H
      go_wp2_with (first | (refine goesM 110 15 Tryz.func110 #[.slice A0_1 l0_1.length c0_1, .slice A1_1 l1_1.length c1_1] ?_; refine (laws_eqDescS.calls k _ _ l0_1 _ _ l1_1 false _ (cC HR0_1.out HB.out) HC0_1.out (cC HR1_1.out HB.out) HC1_1.out A5.out).mono ?_; rintro e wz4 ⟨rfl, hb⟩; refine ⟨_, rfl, ?_⟩; replace BKz1 := Aside0.mk (blk_below (bX BKz1.out) hb); replace BKz2 := Aside0.mk (blk_below (bX BKz2.out) hb); replace HB := Aside0.mk (below_step (hX HB.out) hb); clear hb))
      go_ret
      exact ⟨rE, (hX HB.out)⟩
  · replace c4 := Bool.eq_false_iff.mpr c4
    subst c4
    rw [if_neg nft] at H
    obtain rfl := Option.some.inj H
    go_wp2_with (first | (refine goesM 109 9 Tryz.func109 #[.slice A0_0 l0_0.length c0_0, .slice A1_0 l1_0.length c1_0] ?_; refine (laws_eqWordS.calls k _ _ l0_0 _ _ l1_0 false _ (cC HR0_0.out HB.out) HC0_0.out (cC HR1_0.out HB.out) HC1_0.out A3.out).mono ?_; rintro e wz3 ⟨rfl, hb⟩; refine ⟨_, rfl, ?_⟩; replace BKz1 := Aside0.mk (blk_below (bX BKz1.out) hb); replace BKz2 := Aside0.mk (blk_below (bX BKz2.out) hb); replace HB := Aside0.mk (below_step (hX HB.out) hb); clear hb))
    go_ret
    exact ⟨rE, (hX HB.out)⟩
end Go.Proofs.YtmljebgideecjaaGreat.P
namespace Go.Proofs.YtmljebgideecjaaGreat.P
open Go.Proofs.YtmljebgideecjaaGreatZ Go.RowKit Go.Proofs.YtmljebgideecjaaGreatW.PrintWords Go.Proofs.YtmljebgideecjaaGreatW.PrintLast Go.Proofs.YtmljebgideecjaaGreatW.PrintMore
attribute [local go_sem] max2_int min2_int max_two min_two max_three min_three max_four min_four   -- for this text's walks alone
set_option linter.unusedVariables false
set_option linter.unusedSimpArgs false
def laws_eqPair.f (a0_0 : Int) (a0_1 : Int) (a1_0 : Int) (a1_1 : Int) : Option (Bool) := if a0_0 = a1_0 then (if a0_1 = a1_1 then (some true) else (some false)) else (some false)
set_option maxHeartbeats 8000000 in
set_option maxRecDepth 100000 in
theorem laws_eqPair.calls (a0_0 : Int) (a0_1 : Int) (a1_0 : Int) (a1_1 : Int) (r : Bool) (w : World) (h : laws_eqPair.f a0_0 a0_1 a1_0 a1_1 = some r) :
    Calls Tryz.prog 214 #[.agg #[.int .i64 a0_0, .int .i64 a0_1], .agg #[.int .i64 a1_0, .int .i64 a1_1]] w fun e w' => e = .returned (.bool r) ∧ Below w.heap.size w w' := by
  have hu172 := Tryz.underlying172
  have HB := Aside0.mk (Below.refl w.heap.size w)
  have H := h
  unfold laws_eqPair.f at H
  clear h
  go_enter Tryz.func214, Tryz.ntmps214
  go_wp2_with (first | (refine boxE 2 #[.int .i64 a0_0, .int .i64 a0_1] 172 ?_; intro gbz1 hg wz1 hbox hb; have BKz1 := Aside0.mk (hbox); have GWz1 := Aside0.mk (gX' hg (hX HB.out)); have GEz1 := Aside0.mk (gX' hg (hX HB.out)); replace HB := Aside0.mk (below_step (hX HB.out) hb); clear hb hbox hg) | (refine boxE 3 #[.int .i64 a1_0, .int .i64 a1_1] 172 ?_; intro gbz2 hg wz2 hbox hb; have BKz2 := Aside0.mk (hbox); have GWz2 := Aside0.mk (gX' hg (hX HB.out)); have GEz2 := Aside0.mk (gX' hg (hX HB.out)); have NBz1 := Aside0.mk (gL hg (bX BKz1.out)); have NBz2 := Aside0.mk (gG hg (bX BKz1.out)); replace BKz1 := Aside0.mk (blk_below (bX BKz1.out) hb); replace HB := Aside0.mk (below_step (hX HB.out) hb); clear hb hbox hg; have hnbz1 := NBz1.out; have hncz1 := NBz2.out; obtain ⟨hczz1, hczz2, hfzz1, hfzz2⟩ := cZ2 BKz1.out; obtain ⟨hczz3, hczz4, hfzz3, hfzz4⟩ := cZ2 BKz2.out; refine Stop.out ?_))
  refine ⟨?_⟩
  by_cases c3 : a0_0 = a1_0
  · rw [if_pos c3] at H
    obtain ⟨c3b0, c3b1⟩ := eqT c3
    clear c3
    by_cases c4 : a0_1 = a1_1
    · rw [if_pos c4] at H
      obtain ⟨c4b0, c4b1⟩ := eqT c4
      clear c4
      obtain rfl := Option.some.inj H
      go_wp2
      go_ret
      exact ⟨rE, (hX HB.out)⟩
    · rw [if_neg c4] at H
      obtain ⟨c4b0, c4b1⟩ := eqF c4
      obtain rfl := Option.some.inj H
      go_wp2
      go_ret
      exact ⟨rE, (hX HB.out)⟩
  · rw [if_neg c3] at H
    obtain ⟨c3b0, c3b1⟩ := eqF c3
    obtain rfl := Option.some.inj H
    go_wp2
    go_ret
    exact ⟨rE, (hX HB.out)⟩
end Go.Proofs.YtmljebgideecjaaGreat.P
namespace Go.Proofs.YtmljebgideecjaaGreat.P
open Go.Proofs.YtmljebgideecjaaGreatZ Go.RowKit Go.Proofs.YtmljebgideecjaaGreatW.PrintWords Go.Proofs.YtmljebgideecjaaGreatW.PrintLast Go.Proofs.YtmljebgideecjaaGreatW.PrintMore
attribute [local go_sem] max2_int min2_int max_two min_two max_three min_three max_four min_four   -- for this text's walks alone
set_option linter.unusedVariables false
set_option linter.unusedSimpArgs false
def laws_eqPairS.l0 : Nat → List (S172) → List (S172) → Int → Option (Bool)
  | 0, _, _, _ => none
  | k + 1, x0, x1, x5 => if x5 < (x0.length : Int) then (if 0 ≤ x5 then (if x5 < (x1.length : Int) then ((laws_eqPair.f ((rd_T172 x0 x5).f0) ((rd_T172 x0 x5).f1) ((rd_T172 x1 x5).f0) ((rd_T172 x1 x5).f1)).bind fun t103 => (if t103 = true then (laws_eqPairS.l0 k x0 x1 (wrap64 (x5 + 1))) else (some false))) else (none)) else (none)) else (some true)
def laws_eqPairS.f (k : Nat) (l0 : List (S172)) (l1 : List (S172)) : Option (Bool) := if (l0.length : Int) = (l1.length : Int) then (laws_eqPairS.l0 k l0 l1 0) else (some false)
def laws_eqPairS.T6 : Bool × List (List Nat × List Nat) := (true, [([], []), ([], []), ([0, 1], [0, 1]), ([2], [2]), ([], []), ([], []), ([4, 5], [4, 5]), ([6], [6]), ([3, 7], [3, 7]), ([8], [8])])
def laws_eqPairS.B6 : List Nat := [0, 0, 3, 7, 0, 0, 48, 112, 255, 511]
theorem laws_eqPairS.tab6 : rtab .any (opsOf Tryz.f188 6) = laws_eqPairS.T6 := by kernel_rfl
theorem laws_eqPairS.bits6 : waitsOk laws_eqPairS.T6.2 laws_eqPairS.B6 = true := by kernel_rfl
set_option maxHeartbeats 8000000 in
set_option maxRecDepth 100000 in
theorem laws_eqPairS.calls (k : Nat) (A0 : Option Addr) (c0 : Nat) (l0 : List (S172)) (A1 : Option Addr) (c1 : Nat) (l1 : List (S172)) (r : Bool) (w : World) (hr0 : Kd.C k172 w A0 l0.length l0) (hc0 : l0.length ≤ c0) (hr1 : Kd.C k172 w A1 l1.length l1) (hc1 : l1.length ≤ c1) (h : laws_eqPairS.f k l0 l1 = some r) :
    Calls Tryz.prog 188 #[.slice A0 l0.length c0, .slice A1 l1.length c1] w fun e w' => e = .returned (.bool r) ∧ Below w.heap.size w w' := by
  have hu172 := Tryz.underlying172
  have HR0 := Aside0.mk hr0
  have HC0 := Aside0.mk hc0
  clear hr0 hc0
  have HR1 := Aside0.mk hr1
  have HC1 := Aside0.mk hc1
  clear hr1 hc1
  have HB := Aside0.mk (Below.refl w.heap.size w)
  have H := h
  unfold laws_eqPairS.f at H
  clear h
  go_enter Tryz.func188, Tryz.ntmps188
  by_cases c3 : (l0.length : Int) = (l1.length : Int)
  · rw [if_pos c3] at H
    obtain ⟨c3b0, c3b1⟩ := eqT c3
    have c3b2 : (l0.length == l1.length) = true := by first | simpa using c3 | (simp at c3 ⊢; omega)
    clear c3
    have H' := Aside0.mk H
    clear H
    go_wp2
    go_loopg [5] k (fun kq v5 w' => ∃ (x5_1 : Int), v5 = .int .i64 x5_1 ∧ Aside0 (laws_eqPairS.l0 kq l0 l1 x5_1 = some r) ∧ Aside0 (kq ≤ k) ∧ Aside0 (Below w.heap.size w w'))
    case atStart => exact ⟨(0), rS, H', ⟨Nat.le_refl _⟩, ⟨(hX HB.out)⟩⟩
    case round =>
      clear H'
      try clear c1
      try clear p2
      try clear c3
      try clear c3b0
      try clear c3b1
      try clear c3b2
      obtain ⟨x5_1, rfl, HA, HKy1, HB⟩ := hrel
      cases gk with
      | zero => exact absurd HA.out (by simp [laws_eqPairS.l0])
      | succ k1 =>
        have H := HA.out
        clear HA
        simp only [laws_eqPairS.l0] at H
        by_cases c4 : x5_1 < (l0.length : Int)
        · rw [if_pos c4] at H
          have c4b0 := decide_eq_true c4
          clear c4
          replace H := ifP H; obtain ⟨c5, H⟩ := H
          have c5b0 := decide_eq_true c5
          clear c5
          replace H := ifP H; obtain ⟨c6, H⟩ := H
          have c6b0 := decide_eq_true c6
          clear c6
          replace H := bE H; obtain ⟨t103, A7, H⟩ := H
          try go_wp2
          replace HB := Aside0.mk (below_drew1 HB.out)
          have px1 : 0 ≤ (x5_1 : Int) := of_decide_eq_true (by first | (with_reducible assumption) | assumption)
          have qx1 : x5_1 < (l0.length : Int) := of_decide_eq_true (by first | (with_reducible assumption) | assumption)
          obtain ⟨adx1, ex1, hxx1, hxx2⟩ := at_T172 HR0.out x5_1 px1 qx1
          have hwx1 := hxx2
          have hwx2 := hxx1
          cases ex1
          replace hxx1 := (HB.out.cell (World.block_lt_of_cell? w _ hxx1)).trans hxx1
          replace hxx2 := (HB.out.cell (World.block_lt_of_cell? w _ hxx2)).trans hxx2
          replace px1 := eq_true px1
          replace qx1 := eq_true qx1
          have px2 : 0 ≤ (x5_1 : Int) := of_decide_eq_true (by first | (with_reducible assumption) | assumption)
          have qx2 : x5_1 < (l1.length : Int) := of_decide_eq_true (by first | (with_reducible assumption) | assumption)
          obtain ⟨adx2, ex2, hxx3, hxx4⟩ := at_T172 HR1.out x5_1 px2 qx2
          have hwx3 := hxx4
          have hwx4 := hxx3
          cases ex2
          replace hxx3 := (HB.out.cell (World.block_lt_of_cell? w _ hxx3)).trans hxx3
          replace hxx4 := (HB.out.cell (World.block_lt_of_cell? w _ hxx4)).trans hxx4
          replace px2 := eq_true px2
          replace qx2 := eq_true qx2
          refine start_ (n := 10) (S := fun w' => w'.cell? (adx1.add ((x5_1).toNat * 2)) = some (.int .i64 ((rd_T172 l0 x5_1).f0)) ∧ w'.cell? ⟨(adx1.add ((x5_1).toNat * 2)).block, (adx1.add ((x5_1).toNat * 2)).off + 1, none⟩ = some (.int .i64 ((rd_T172 l0 x5_1).f1)) ∧ w'.cell? (adx2.add ((x5_1).toNat * 2)) = some (.int .i64 ((rd_T172 l1 x5_1).f0)) ∧ w'.cell? ⟨(adx2.add ((x5_1).toNat * 2)).block, (adx2.add ((x5_1).toNat * 2)).off + 1, none⟩ = some (.int .i64 ((rd_T172 l1 x5_1).f1))) (ds := []) (bm 10 0) (by kernel_rfl) rfl (by kernel_rfl) ⟨((HB.out.cell (World.block_lt_of_cell? w _ hwx2)).trans hwx2), ((HB.out.cell (World.block_lt_of_cell? w _ hwx1)).trans hwx1), ((HB.out.cell (World.block_lt_of_cell? w _ hwx4)).trans hwx4), ((HB.out.cell (World.block_lt_of_cell? w _ hwx3)).trans hwx3)⟩ (fun hHeld => ?_); refine with_tabW laws_eqPairS.tab6 laws_eqPairS.bits6 (fun HT_ HW_ => ?_)
          generalize wr.drew = wx1 at HB hxx1 hxx2 hxx3 hxx4 hHeld ⊢
          refine pZ 0 17 (bm 10 1) HT_.out ?_
          refine pZ 1 18 (bm 10 3) HT_.out ?_
          refine pZ 2 19 (bm 10 7) HT_.out ?_
          refine pZ 4 21 (bm 10 23) HT_.out ?_
          refine pZ 5 22 (bm 10 55) HT_.out ?_
          refine pZ 6 23 (bm 10 119) HT_.out ?_
          refine tZ 3 20 (bm 10 127) HT_.out HW_.out hHeld ?_
          refine tZ 7 24 (bm 10 255) HT_.out HW_.out hHeld ?_
          by_cases c8 : t103 = true
          · subst c8
            rw [if_pos rfl] at H
            have H' := Aside0.mk H
            clear H
            refine oZ 8 (some 25) (bm 10 511) HT_.out (fun K hK => ?_)
            refine goesN Tryz.func214 #[.agg #[.int .i64 ((rd_T172 l0 x5_1).f0), .int .i64 ((rd_T172 l0 x5_1).f1)], .agg #[.int .i64 ((rd_T172 l1 x5_1).f0), .int .i64 ((rd_T172 l1 x5_1).f1)]] ?_
            with_reducible refine (laws_eqPair.calls ((rd_T172 l0 x5_1).f0) ((rd_T172 l0 x5_1).f1) ((rd_T172 l1 x5_1).f0) ((rd_T172 l1 x5_1).f1) true _ A7.out).mono ?_
            rintro e wx2 ⟨rfl, hb⟩
            refine ⟨_, rfl, ?_⟩
            replace HB := Aside0.mk (below_step (hX HB.out) hb)
            (try clear hb)
            (try clear hb2)
            (try clear hk)
            (try clear hi)
            refine hK.out _ _ ⟨((HB.out.cell (World.block_lt_of_cell? w _ hwx2)).trans hwx2), ((HB.out.cell (World.block_lt_of_cell? w _ hwx1)).trans hwx1), ((HB.out.cell (World.block_lt_of_cell? w _ hwx4)).trans hwx4), ((HB.out.cell (World.block_lt_of_cell? w _ hwx3)).trans hwx3)⟩ (fun hHeld => ?_)
            clear hK K
            refine nZ 25 ?_
            refine pZ 9 26 (bm 10 1023) HT_.out ?_
            refine done_ (done_of HT_.out (by kernel_rfl)) ?_
            try go_wp2
            go_roundg k1
            case measure => have := HKy1.out; omega
            case rel => exact ⟨(wrap64 (x5_1 + 1)), rS, H', ⟨by have := HKy1.out; omega⟩, ⟨(hX HB.out)⟩⟩
          · replace c8 := Bool.eq_false_iff.mpr c8
            subst c8
            rw [if_neg nft] at H
            obtain rfl := Option.some.inj H
            refine oZ 8 (some 25) (bm 10 511) HT_.out (fun K hK => ?_)
            refine goesN Tryz.func214 #[.agg #[.int .i64 ((rd_T172 l0 x5_1).f0), .int .i64 ((rd_T172 l0 x5_1).f1)], .agg #[.int .i64 ((rd_T172 l1 x5_1).f0), .int .i64 ((rd_T172 l1 x5_1).f1)]] ?_
            with_reducible refine (laws_eqPair.calls ((rd_T172 l0 x5_1).f0) ((rd_T172 l0 x5_1).f1) ((rd_T172 l1 x5_1).f0) ((rd_T172 l1 x5_1).f1) false _ A7.out).mono ?_
            rintro e wx2 ⟨rfl, hb⟩
            refine ⟨_, rfl, ?_⟩
            replace HB := Aside0.mk (below_step (hX HB.out) hb)
            (try clear hb)
            (try clear hb2)
            (try clear hk)
            (try clear hi)
            refine hK.out _ _ ⟨((HB.out.cell (World.block_lt_of_cell? w _ hwx2)).trans hwx2), ((HB.out.cell (World.block_lt_of_cell? w _ hwx1)).trans hwx1), ((HB.out.cell (World.block_lt_of_cell? w _ hwx4)).trans hwx4), ((HB.out.cell (World.block_lt_of_cell? w _ hwx3)).trans hwx3)⟩ (fun hHeld => ?_)
            clear hK K
            refine nZ 25 ?_
            refine pZ 9 26 (bm 10 1023) HT_.out ?_
            refine done_ (done_of HT_.out (by kernel_rfl)) ?_
            try go_wp2
            go_ret
            exact ⟨rE, (hX HB.out)⟩
        · rw [if_neg c4] at H
          have c4b0 := decide_eq_false c4
          clear c4
          obtain rfl := Option.some.inj H
          go_wp2
          go_ret
          exact ⟨rE, (hX HB.out)⟩
  · rw [if_neg c3] at H
    obtain ⟨c3b0, c3b1⟩ := eqF c3
    have c3b2 : (l0.length == l1.length) = false := by first | simpa using c3 | (simp at c3 ⊢; omega)
    obtain rfl := Option.some.inj H
    go_wp2
    go_ret
    exact ⟨rE, (hX HB.out)⟩
end Go.Proofs.YtmljebgideecjaaGreat.P
namespace Go.Proofs.YtmljebgideecjaaGreat.P
open Go.Proofs.YtmljebgideecjaaGreatZ Go.RowKit Go.Proofs.YtmljebgideecjaaGreatW.PrintWords Go.Proofs.YtmljebgideecjaaGreatW.PrintLast Go.Proofs.YtmljebgideecjaaGreatW.PrintMore
attribute [local go_sem] max2_int min2_int max_two min_two max_three min_three max_four min_four   -- for this text's walks alone
set_option linter.unusedVariables false
set_option linter.unusedSimpArgs false
def laws_eqHelp.f (a0_0 : Int) (a0_1 : Int) (a0_2 : Int) (a0_3 : Int) (a1_0 : Int) (a1_1 : Int) (a1_2 : Int) (a1_3 : Int) : Option (Bool) := if a0_0 = a1_0 then (if a0_1 = a1_1 then (if a0_2 = a1_2 then (if a0_3 = a1_3 then (some true) else (some false)) else (some false)) else (some false)) else (some false)
set_option maxHeartbeats 8000000 in
set_option maxRecDepth 100000 in
theorem laws_eqHelp.calls (a0_0 : Int) (a0_1 : Int) (a0_2 : Int) (a0_3 : Int) (a1_0 : Int) (a1_1 : Int) (a1_2 : Int) (a1_3 : Int) (r : Bool) (w : World) (h : laws_eqHelp.f a0_0 a0_1 a0_2 a0_3 a1_0 a1_1 a1_2 a1_3 = some r) :
    Calls Tryz.prog 215 #[.agg #[.int .i64 a0_0, .int .i64 a0_1, .int .i64 a0_2, .int .i64 a0_3], .agg #[.int .i64 a1_0, .int .i64 a1_1, .int .i64 a1_2, .int .i64 a1_3]] w fun e w' => e = .returned (.bool r) ∧ Below w.heap.size w w' := by
  have hu174 := Tryz.underlying174
  have HB := Aside0.mk (Below.refl w.heap.size w)
  have H := h
  unfold laws_eqHelp.f at H
  clear h
  go_enter Tryz.func215, Tryz.ntmps215
  go_wp2_with (first | (refine boxE 2 #[.int .i64 a0_0, .int .i64 a0_1, .int .i64 a0_2, .int .i64 a0_3] 174 ?_; intro gbz1 hg wz1 hbox hb; have BKz1 := Aside0.mk (hbox); have GWz1 := Aside0.mk (gX' hg (hX HB.out)); have GEz1 := Aside0.mk (gX' hg (hX HB.out)); replace HB := Aside0.mk (below_step (hX HB.out) hb); clear hb hbox hg) | (refine boxE 3 #[.int .i64 a1_0, .int .i64 a1_1, .int .i64 a1_2, .int .i64 a1_3] 174 ?_; intro gbz2 hg wz2 hbox hb; have BKz2 := Aside0.mk (hbox); have GWz2 := Aside0.mk (gX' hg (hX HB.out)); have GEz2 := Aside0.mk (gX' hg (hX HB.out)); have NBz1 := Aside0.mk (gL hg (bX BKz1.out)); have NBz2 := Aside0.mk (gG hg (bX BKz1.out)); replace BKz1 := Aside0.mk (blk_below (bX BKz1.out) hb); replace HB := Aside0.mk (below_step (hX HB.out) hb); clear hb hbox hg; have hnbz1 := NBz1.out; have hncz1 := NBz2.out; obtain ⟨hczz1, hczz2, hczz3, hczz4, hfzz1, hfzz2, hfzz3, hfzz4⟩ := cZ4 BKz1.out; obtain ⟨hczz5, hczz6, hczz7, hczz8, hfzz5, hfzz6, hfzz7, hfzz8⟩ := cZ4 BKz2.out; refine Stop.out ?_))
  refine ⟨?_⟩
  by_cases c3 : a0_0 = a1_0
  · rw [if_pos c3] at H
    obtain ⟨c3b0, c3b1⟩ := eqT c3
    clear c3
    by_cases c4 : a0_1 = a1_1
    · rw [if_pos c4] at H
      obtain ⟨c4b0, c4b1⟩ := eqT c4
      clear c4
      by_cases c5 : a0_2 = a1_2
      · rw [if_pos c5] at H
        obtain ⟨c5b0, c5b1⟩ := eqT c5
        clear c5
        by_cases c6 : a0_3 = a1_3
        · rw [if_pos c6] at H
          obtain ⟨c6b0, c6b1⟩ := eqT c6
          clear c6
          obtain rfl := Option.some.inj H
          go_wp2
          go_ret
          exact ⟨rE, (hX HB.out)⟩
        · rw [if_neg c6] at H
          obtain ⟨c6b0, c6b1⟩ := eqF c6
          obtain rfl := Option.some.inj H
          go_wp2
          go_ret
          exact ⟨rE, (hX HB.out)⟩
      · rw [if_neg c5] at H
        obtain ⟨c5b0, c5b1⟩ := eqF c5
        obtain rfl := Option.some.inj H
        go_wp2
        go_ret
        exact ⟨rE, (hX HB.out)⟩
    · rw [if_neg c4] at H
      obtain ⟨c4b0, c4b1⟩ := eqF c4
      obtain rfl := Option.some.inj H
      go_wp2
      go_ret
      exact ⟨rE, (hX HB.out)⟩
  · rw [if_neg c3] at H
    obtain ⟨c3b0, c3b1⟩ := eqF c3
    obtain rfl := Option.some.inj H
    go_wp2
    go_ret
    exact ⟨rE, (hX HB.out)⟩
end Go.Proofs.YtmljebgideecjaaGreat.P

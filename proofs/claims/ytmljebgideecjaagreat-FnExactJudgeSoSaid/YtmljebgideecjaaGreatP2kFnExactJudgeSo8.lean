/- A part of the proof of the law FnExactJudgeSo: texts of this seat, merged (words, printed functions of the program, plain lemmas). Conditions: none of its own. -/
import Derived.Test.YtmljebgideecjaaGreatP2kFnExactJudgeSo1
import Derived.Test.YtmljebgideecjaaGreatP2kFnExactJudgeSo4
import Derived.Test.YtmljebgideecjaaGreatP2kFnExactJudgeSo5
import Derived.Test.YtmljebgideecjaaGreatP2kFnExactJudgeSo6
import Derived.Test.YtmljebgideecjaaGreatP2kFnExactJudgeSo7
set_option linter.unusedSimpArgs false
set_option linter.unusedVariables false
set_option maxHeartbeats 8000000
set_option maxRecDepth 100000
namespace Go.Proofs.YtmljebgideecjaaGreat.P2
open Go.Proofs.YtmljebgideecjaaGreatZ Go.RowKit Go.Proofs.YtmljebgideecjaaGreatW.PrintWords Go.Proofs.YtmljebgideecjaaGreatW.PrintLast Go.Proofs.YtmljebgideecjaaGreatW.PrintMore
attribute [local go_sem] max2_int min2_int max_two min_two max_three min_three max_four min_four   -- for this text's walks alone
def laws_toDesc.f (k : Nat) (a0_0 : Int) (a0_1 : Int) (l0_2 : List (S224)) (a0_3 : Int) (l0_4 : List Int) : Option (Int × Int × (List (S165)) × Int × List Int) := (laws_toEntryS.f k l0_2).bind fun t104 => ((laws_toRes.f k a0_3 l0_4).bind fun bt107 => (some (a0_0, a0_1, t104, bt107.1, bt107.2)))
theorem laws_toDesc.calls (k : Nat) (a0_0 : Int) (a0_1 : Int) (A0_2 : Option Addr) (c0_2 : Nat) (l0_2 : List (S224)) (a0_3 : Int) (A0_4 : Option Addr) (c0_4 : Nat) (l0_4 : List Int) (r1 : Int) (r2 : Int) (r3 : List (S165)) (r4 : Int) (r5 : List Int) (w : World) (hr0_2 : Kd.C k224 w A0_2 l0_2.length l0_2) (hc0_2 : l0_2.length ≤ c0_2) (hr0_4 : Kd.C (Kd.int .i64) w A0_4 l0_4.length l0_4) (hc0_4 : l0_4.length ≤ c0_4) (h : laws_toDesc.f k a0_0 a0_1 l0_2 a0_3 l0_4 = some (r1, r2, r3, r4, r5)) :
  Calls Tryz.prog 165 #[.agg #[.int .i64 a0_0, .int .i64 a0_1, .slice A0_2 l0_2.length c0_2, .int .i64 a0_3, .slice A0_4 l0_4.length c0_4]] w fun e w' => ∃ v2_ v4_ : Value, e = .returned (.agg #[.int .i64 r1, .int .i64 r2, v2_, .int .i64 r4, v4_]) ∧ Kd.R k165 165 w' w.heap.size (fun _ => True) v2_ r3 ∧ Kd.R (Kd.int .i64) 3 w' w.heap.size (fun _ => True) v4_ r5 ∧ Below w.heap.size w w' := by
 have hu155 := Tryz.underlying155
 have hu162 := Tryz.underlying162
 have hu117 := Tryz.underlying117
 have hu71 := Tryz.underlying71
 have HR0_2 := aM hr0_2
 have HC0_2 := aM hc0_2
 clear hr0_2 hc0_2
 have HR0_4 := aM hr0_4
 have HC0_4 := aM hc0_4
 clear hr0_4 hc0_4
 have HB := aM (Below.refl w.heap.size w)
 have H := h
 unfold laws_toDesc.f at H
 clear h
 replace H := bE H; obtain ⟨t104, A2, H⟩ := H
 replace H := bE H; obtain ⟨⟨t107, t108⟩, A3, H⟩ := H
 try dsimp only at H
 simp only [Option.some.injEq, Prod.mk.injEq] at H
 obtain ⟨rfl, rfl, rfl, rfl, rfl⟩ := H
 go_enter Tryz.func165, Tryz.ntmps165
 go_wp2_with (first | (refine boxE 1 #[.int .i64 a0_0, .int .i64 a0_1, .slice A0_2 l0_2.length c0_2, .int .i64 a0_3, .slice A0_4 l0_4.length c0_4] 155 ?_; intro gbz1 hg wz1 hbox hb; have BKz1 := aM (hbox); have GWz1 := aG hg HB; have GEz1 := aG hg HB; replace HB := aS HB hb; clear hb hbox hg) | (refine boxE 2 #[.int .i64 0, .int .i64 0, .slice none 0 0, .int .i64 0, .slice none 0 0] 162 ?_; intro gbz2 hg wz2 hbox hb; have BKz2 := aM (hbox); have GWz2 := aG hg HB; have GEz2 := aG hg HB; have NBz1 := aL hg BKz1; have NBz2 := aR hg BKz1; replace BKz1 := aB BKz1 hb; replace HB := aS HB hb; clear hb hbox hg) | (refine boxE 3 #[.int .i64 0, .int .i64 0, .slice none 0 0, .int .i64 0, .slice none 0 0] 162 ?_; intro gbz3 hg wz3 hbox hb; have BKz3 := aM (hbox); have GWz3 := aG hg HB; have GEz3 := aG hg HB; have NBz3 := aL hg BKz1; have NBz4 := aR hg BKz1; have NBz5 := aL hg BKz2; have NBz6 := aR hg BKz2; replace BKz1 := aB BKz1 hb; replace BKz2 := aB BKz2 hb; replace HB := aS HB hb; clear hb hbox hg; have hnbz1 := NBz1.out; have hncz1 := NBz2.out; have hnbz2 := NBz3.out; have hncz2 := NBz4.out; have hczz1 := cZ5 BKz1.out; have hnbz3 := NBz6.out; have hncz3 := NBz5.out; have hczz6 := cZ5 BKz3.out) | (refine goesM 205 12 Tryz.func205 #[.slice A0_2 l0_2.length c0_2] ?_; refine (laws_toEntryS.calls _ _ _ _ _ _ (by exact Kd.C_below HR0_2.out (hX HB.out)) HC0_2.out A2.out).mono ?_; rintro e wz4 ⟨vz1, rfl, hoz1, hb⟩; refine ⟨_, rfl, ?_⟩; have HOz1 := aM (Kd.R_lower hoz1 (below_size (hX HB.out))); replace BKz1 := aF BKz1 hb; replace BKz2 := aF BKz2 hb; replace BKz3 := aM (blk_below (g := gbz3) (o := .cells #[.int .i64 a0_0, .int .i64 a0_1, .slice none 0 0, .int .i64 0, .slice none 0 0] 162 (0, 0)) (bP BKz3.out) hb); replace HB := aS HB hb; clear hb hoz1; obtain ⟨Aoz1, coz1, eoz1⟩ := Kd.R_slice HOz1.out; subst eoz1; have hczz11 := cZ5 BKz3.out; have hczz16 := cZ5 BKz1.out) | (refine goesM 168 16 Tryz.func168 #[.agg #[.int .i64 a0_3, .slice A0_4 l0_4.length c0_4]] ?_; refine (laws_toRes.calls _ _ _ _ _ _ _ _ (by exact Kd.C_below HR0_4.out (hX HB.out)) HC0_4.out A3.out).mono ?_; rintro e wz5 ⟨vz2, rfl, hoz1, hb⟩; refine ⟨_, rfl, ?_⟩; have HOz2 := aM (Kd.R_lower hoz1 (below_size (hX HB.out))); replace HOz1 := aM (Kd.R_below (rF HOz1.out BKz3.out) hb); replace BKz1 := aF BKz1 hb; replace BKz2 := aF BKz2 hb; replace BKz3 := aM (blk_below (g := gbz3) (o := .cells #[.int .i64 a0_0, .int .i64 a0_1, .slice Aoz1 t104.length coz1, .int .i64 0, .slice none 0 0] 162 (0, 0)) (bP BKz3.out) hb); replace HB := aS HB hb; clear hb hoz1; have hczz21 := cZ5 BKz3.out; obtain ⟨Aoz2, coz2, eoz2⟩ := Kd.R_slice HOz2.out; subst eoz2; have hczz26 := cZ5 BKz2.out))
 refine bodyPost_ret (results_cell_row rfl _ _ gbz2 162 #[.int .i64 a0_0, .int .i64 a0_1, .slice Aoz1 t104.length coz1, .int .i64 t107, .slice Aoz2 t108.length coz2] (0, 0) _ rfl (bP BKz2.out) Tryz.underlying162 rfl (by kernel_rfl)) rfl ?_
 exact ⟨_, _, rE, (rT (h := by exact Kd.R_mono (Kd.R_far (p := ⟨gbz2, 4, none⟩) (Kd.R_far (p := ⟨gbz2, 3, none⟩) (Kd.R_far (p := ⟨gbz2, 2, none⟩) (Kd.R_far (p := ⟨gbz2, 1, none⟩) (Kd.R_far (p := ⟨gbz2, 0, none⟩) (Kd.R_far (p := ⟨gbz3, 4, none⟩) (Kd.R_far (p := ⟨gbz3, 3, none⟩) (Kd.R_types (Kd.R_types HOz1.out BKz3.out (by decide)) BKz2.out (by decide)) (fun _ hk => hk.1.2) (.int .i64 t107)) (fun _ hk => hk.1.2) (.slice Aoz2 t108.length coz2)) (fun _ hk => hk.2) (.int .i64 a0_0)) (fun _ hk => hk.2) (.int .i64 a0_1)) (fun _ hk => hk.2) (.slice Aoz1 t104.length coz1)) (fun _ hk => hk.2) (.int .i64 t107)) (fun _ hk => hk.2) (.slice Aoz2 t108.length coz2)) (fun _ hk => trivial))), (rT (h := by exact Kd.R_mono (Kd.R_far (p := ⟨gbz2, 4, none⟩) (Kd.R_far (p := ⟨gbz2, 3, none⟩) (Kd.R_far (p := ⟨gbz2, 2, none⟩) (Kd.R_far (p := ⟨gbz2, 1, none⟩) (Kd.R_far (p := ⟨gbz2, 0, none⟩) (Kd.R_far (p := ⟨gbz3, 4, none⟩) (Kd.R_far (p := ⟨gbz3, 3, none⟩) (Kd.R_types (Kd.R_types HOz2.out BKz3.out (by decide)) BKz2.out (by decide)) (fun _ hk => hk.1.2) (.int .i64 t107)) (fun _ hk => hk.1.2) (.slice Aoz2 t108.length coz2)) (fun _ hk => hk.2) (.int .i64 a0_0)) (fun _ hk => hk.2) (.int .i64 a0_1)) (fun _ hk => hk.2) (.slice Aoz1 t104.length coz1)) (fun _ hk => hk.2) (.int .i64 t107)) (fun _ hk => hk.2) (.slice Aoz2 t108.length coz2)) (fun _ hk => trivial))), (hX HB.out)⟩
def laws_toDescS.l0 : Nat → List (S155) → List (S162) → Int → Option ((List (S162)))
 | 0, _, _, _ => none
 | k + 1, x0, x3, x4 => if x4 < (x0.length : Int) then (if 0 ≤ x4 then ((laws_toDesc.f k ((rd_T155 x0 x4).f0) ((rd_T155 x0 x4).f1) ((rd_T155 x0 x4).f2) ((rd_T155 x0 x4).f3.f0) ((rd_T155 x0 x4).f3.f1)).bind fun bt105 => (if x4 < (x3.length : Int) then (laws_toDescS.l0 k x0 (x3.set (x4 : Int).toNat (⟨bt105.1, bt105.2.1, bt105.2.2.1, (⟨bt105.2.2.2.1, bt105.2.2.2.2⟩ : S71)⟩ : S162)) (wrap64 (x4 + 1))) else (none))) else (none)) else (some x3)
def laws_toDescS.f (k : Nat) (l0 : List (S155)) : Option ((List (S162))) := if 0 ≤ (l0.length : Int) then (if ((l0.length : Int) : Int).toNat ≤ 3909374676536 then (laws_toDescS.l0 k l0 (List.replicate ((l0.length : Int) : Int).toNat z162) 0) else (none)) else (none)
theorem laws_toDescS.calls (k : Nat) (A0 : Option Addr) (c0 : Nat) (l0 : List (S155)) (r : List (S162)) (w : World) (hr0 : Kd.C k155 w A0 l0.length l0) (hc0 : l0.length ≤ c0) (h : laws_toDescS.f k l0 = some r) :
  Calls Tryz.prog 98 #[.slice A0 l0.length c0] w fun e w' => ∃ v0_ : Value, e = .returned (v0_) ∧ Kd.S k162 162 w' w.heap.size (fun _ => True) v0_ r ∧ Below w.heap.size w w' := by
 have hu155 := Tryz.underlying155
 have hu162 := Tryz.underlying162
 have HR0 := aM hr0
 have HC0 := aM hc0
 clear hr0 hc0
 have HB := aM (Below.refl w.heap.size w)
 have H := h
 unfold laws_toDescS.f at H
 clear h
 replace H := ifP H; obtain ⟨c2, H⟩ := H
 have c2b0 := eq_true c2
 have c2b1 := decide_eq_true c2
 clear c2
 replace H := ifP H; obtain ⟨c3, H⟩ := H
 have c3b0 := eq_true c3
 have c3b1 := decide_eq_true c3
 clear c3
 obtain ⟨y101, hy101⟩ : ∃ y_ : List (S162), y_ = (List.replicate ((l0.length : Int) : Int).toNat z162) := ⟨_, rfl⟩
 replace H : (laws_toDescS.l0 k l0 y101 0) = some r := yH H hy101
 have Ny101 := aM hy101
 clear hy101
 have H' := aM H
 clear H
 go_enter Tryz.func98, Tryz.ntmps98
 go_wp2_with ((with_reducible refine gate_dst (N := 7) rfl ?_); refine Kd.S_make k162 _ 162 rfl (N := 7) rfl 36 _ _ rfl (l0.length : Int) rfl rfl Tryz.underlying36 (.agg #[(.int .i64 0), (.int .i64 0), (.slice none 0 0), (.int .i64 0), (.slice none 0 0)]) 72 info162 rfl (by decide) (by omega) z162 (ok := fun _ => True) (okp := fun _ => True) (k162_mkM _ _ _ z162 (Kd.R_nil _ _ _ _ _) (Kd.R_nil _ _ _ _ _)) (fun _ hk => hk) trivial (odA) (Nat.le_trans (Nat.mul_le_mul_right _ (odA : (l0.length : Int).toNat ≤ 3909374676536)) (by omega)) (Below.refl _ _) (Nat.le_refl _) ?_; intro vz1 wz1 hoz1 hb hg_ hnew_; clear hg_ hnew_; (first | rw [← Ny101.out] at hoz1 | (simp only [Int.reduceToNat] at hoz1; rw [← Ny101.out] at hoz1)); have HOz1 := aM (Kd.S_lower hoz1 (below_size (hX HB.out))); replace HB := aS HB hb; clear hb hoz1)
 go_loopg [4] k (fun kq v4 w' => ∃ (x3_1 : List (S162)) (x4_1 : Int), v4 = .int .i64 x4_1 ∧ Aside0 (laws_toDescS.l0 kq l0 x3_1 x4_1 = some r) ∧ Aside0 (kq ≤ k) ∧ Aside0 (Kd.S k162 162 w' w.heap.size (fun _ => True) vz1 x3_1) ∧ Aside0 (Below w.heap.size w w'))
 case atStart => exact ⟨(y101), (0), rS, H', ⟨Nat.le_refl _⟩, ⟨(sX HOz1.out)⟩, ⟨(hX HB.out)⟩⟩
 case round =>
  clear H'
  try clear c2
  try clear c2b0
  try clear c2b1
  try clear c3
  try clear c3b0
  try clear c3b1
  obtain ⟨x3_1, x4_1, rfl, HA, HKy1, HO_y1, HB⟩ := hrel
  cases gk with
  | zero => exact absurd HA.out (by simp [laws_toDescS.l0])
  | succ k1 =>
   have H := HA.out
   clear HA
   simp only [laws_toDescS.l0] at H
   revert H; refine iN (fun c6b0 H => ?_) (fun c6b0 H => ?_)
   ·obtain rfl := sI H
    go_wp2
    go_ret
    exact ⟨_, rE, (sX HO_y1.out), (hX HB.out)⟩
   replace H := ifQ H; obtain ⟨c7b0, H⟩ := H
   replace H := bE H; obtain ⟨⟨t105, t106, t107, t110, t111⟩, A8, H⟩ := H
   try dsimp only at H
   replace H := ifQ H; obtain ⟨c9b0, H⟩ := H
   obtain ⟨y114, hy114⟩ : ∃ y_ : List (S162), y_ = (x3_1.set (x4_1 : Int).toNat (⟨t105, t106, t107, (⟨t110, t111⟩ : S71)⟩ : S162)) := ⟨_, rfl⟩
   replace H : (laws_toDescS.l0 k1 l0 y114 (wrap64 (x4_1 + 1))) = some r := yH H hy114
   have Ny114 := aM hy114
   clear hy114
   have H' := aM H
   clear H
   obtain ⟨adx1, Ax1, cx1, Ax2, cx2, ex1, px1, qx1, hxx1, HCx1, HRx1, HCx2, HRx2⟩ := at_T155c HR0 HB x4_1
   cases ex1
   go_wp2_with (first | (refine goesM 165 20 Tryz.func165 #[.agg #[.int .i64 ((rd_T155 l0 x4_1).f0), .int .i64 ((rd_T155 l0 x4_1).f1), .slice Ax1 ((rd_T155 l0 x4_1).f2).length cx1, .int .i64 ((rd_T155 l0 x4_1).f3.f0), .slice Ax2 ((rd_T155 l0 x4_1).f3.f1).length cx2]] ?_; refine (laws_toDesc.calls _ _ _ _ _ _ _ _ _ _ _ _ _ _ _ _ (cC HRx1.out HB.out) HCx1.out (cC HRx2.out HB.out) HCx2.out A8.out).mono ?_; rintro e wx1 ⟨vx1, vx2, rfl, hox1, hox2, hb⟩; refine ⟨_, rfl, ?_⟩; have HOx1 := aM (Kd.R_lower hox1 (below_size (hX HB.out))); have HOx2 := aM (Kd.R_lower hox2 (below_size (hX HB.out))); replace HO_y1 := aM (Kd.S_mono (Kd.S_told (Kd.S_told (Kd.S_old (sX HO_y1.out) hb) (Kd.R_base hox1)) (Kd.R_base hox2)) (fun _ h_ => h_.1)); replace HB := aS HB hb; clear hb hox1 hox2; have px2 : 0 ≤ (x4_1 : Int) := odA; have qx2 : (x4_1 : Int) < ((x3_1.length : Int) : Int) := odA; obtain ⟨gox1, cox1, eox1, gbx1, glx1, clx1, HGx1⟩ := Kd.S_form HO_y1.out (by omega); (first | cases eox1 | (injection eox1 with ea_ en_ ec_; (first | subst ea_ | (injection ea_ with ea_; subst ea_)); subst ec_; clear en_)); have GBx1 := aM gbx1; have GGx1 := aM HGx1; clear gbx1 glx1 HGx1; obtain ⟨_, cex1, hclx1, hMx1, hccx1, hfrx1, _, _⟩ := Kd.S_elem HO_y1.out z162 (x4_1 : Int) px2 qx2; obtain ⟨vex1, vex2, rfl, gex1, gex2⟩ := k162_openM hMx1; have hxx6 : wx1.cell? ⟨gox1, (x4_1 : Int).toNat * 5, none⟩ = some (.int .i64 ((rd_T162 x3_1 x4_1).f0)) := hccx1 0 _ rfl; have hxx7 : wx1.cell? ⟨gox1, (x4_1 : Int).toNat * 5 + 1, none⟩ = some (.int .i64 ((rd_T162 x3_1 x4_1).f1)) := hccx1 1 _ rfl; have hxx8 : wx1.cell? ⟨gox1, (x4_1 : Int).toNat * 5 + 2, none⟩ = some (vex1) := hccx1 2 _ rfl; have hxx9 : wx1.cell? ⟨gox1, (x4_1 : Int).toNat * 5 + 3, none⟩ = some (.int .i64 ((rd_T162 x3_1 x4_1).f3.f0)) := hccx1 3 _ rfl; have hxx10 : wx1.cell? ⟨gox1, (x4_1 : Int).toNat * 5 + 4, none⟩ = some (vex2) := hccx1 4 _ rfl; have hfx1 : wx1.frozen? ⟨gox1, (x4_1 : Int).toNat * 5, none⟩ = false := hfrx1 0; have hfx2 : wx1.frozen? ⟨gox1, (x4_1 : Int).toNat * 5 + 1, none⟩ = false := hfrx1 1; have hfx3 : wx1.frozen? ⟨gox1, (x4_1 : Int).toNat * 5 + 2, none⟩ = false := hfrx1 2; have hfx4 : wx1.frozen? ⟨gox1, (x4_1 : Int).toNat * 5 + 3, none⟩ = false := hfrx1 3; have hfx5 : wx1.frozen? ⟨gox1, (x4_1 : Int).toNat * 5 + 4, none⟩ = false := hfrx1 4; clear hclx1 hccx1 hfrx1 hMx1; replace px2 := eq_true px2; replace qx2 := eq_true qx2; obtain ⟨Aox1, cox2, eox2⟩ := Kd.R_slice HOx1.out; subst eox2; obtain ⟨Aox2, cox3, eox3⟩ := Kd.R_slice HOx2.out; subst eox3; have n_ := aM (Kd.S_mono (ok' := (fun k_ => some k_ ≠ (.slice Aox1 t107.length cox2 : Value).ownBlock ∧ some k_ ≠ (.slice Aox2 t111.length cox3 : Value).ownBlock)) HO_y1.out (fun k_ hk => ⟨hk.1.2, hk.2⟩)); clear HO_y1; have HO_y1 := n_; clear n_; have HXx1 := aM (show Kd.S k162 162 wx1 w.heap.size (fun k_ => ((fun _ => True)) k_ ∧ ¬ ((fun k_ => some k_ = (.slice Aox1 t107.length cox2 : Value).ownBlock ∨ some k_ = (.slice Aox2 t111.length cox3 : Value).ownBlock)) k_) (.slice (some ⟨gox1, 0, none⟩) x3_1.length cox1) x3_1 from (by (with_reducible repeat (first | apply Kd.S_alloc | apply Kd.S_drewN | apply Kd.S_drew)); exact Kd.S_mono HO_y1.out (fun k_ hk => ⟨trivial, fun e_ => e_.elim (fun h_ => hk.1 h_) (fun h_ => hk.2 h_)⟩))); obtain ⟨okix1, cex2, hclx2, hMx2, hccx2, hfrx2, hokix1, hHx1⟩ := Kd.S_elem HXx1.out z162 (x4_1 : Int) (odA) (by have h_ : (x4_1 : Int) < ((x3_1.length : Int) : Int) := odA; first | exact h_ | (have e_ := (Kd.S_reads' HO_y1.out).1; omega) | simpa using h_); obtain ⟨vex3, vex4, rfl, gex3, gex4⟩ := k162_openM hMx2; have HPx1 := Kd.S_seg hHx1 (odA) (by have h_ : (x4_1 : Int) < ((x3_1.length : Int) : Int) := odA; first | exact h_ | (have e_ := (Kd.S_reads' HO_y1.out).1; omega) | simpa using h_) (seg := [.int .i64 t105, .int .i64 t106, .slice Aox1 t107.length cox2, .int .i64 t110, .slice Aox2 t111.length cox3]) (j := 0) (show 5 ≤ 5 from by decide) (x' := (⟨t105, t106, t107, (⟨t110, t111⟩ : S71)⟩ : S162)) (k162_mkM _ _ _ (⟨t105, t106, t107, (⟨t110, t111⟩ : S71)⟩ : S162) (Kd.R_mono (Kd.R_tight rfl (Kd.R_mono (ok' := fun k_ => ((fun _ => True)) k_ ∧ k_ ≠ gox1) (Kd.R_apart' (HOx1.out) (Kd.S_typed HO_y1.out) (by decide)) (fun k_ hk => ⟨trivial, fun e_ => (hk.2) (by rw [e_]; rfl)⟩))) (fun _ h_ => Or.inr (Or.inl h_))) (Kd.R_mono (Kd.R_tight rfl (Kd.R_mono (ok' := fun k_ => ((fun _ => True)) k_ ∧ k_ ≠ gox1) (Kd.R_apart' (HOx2.out) (Kd.S_typed HO_y1.out) (by decide)) (fun k_ hk => ⟨trivial, fun e_ => (hk.2) (by rw [e_]; rfl)⟩))) (fun _ h_ => Or.inr (Or.inr (h_))))) (fun _ hk => hk) (fun k_ hk_ => hk_.elim (fun h_ => ((Kd.R_mono (ok' := fun k_ => ((fun _ => True)) k_ ∧ k_ ≠ gox1) (Kd.R_apart' (HOx1.out) (Kd.S_typed HO_y1.out) (by decide)) (fun k_ hk => ⟨trivial, fun e_ => (hk.2) (by rw [e_]; rfl)⟩))).1 k_ h_.symm) (fun h_ => ((Kd.R_mono (ok' := fun k_ => ((fun _ => True)) k_ ∧ k_ ≠ gox1) (Kd.R_apart' (HOx2.out) (Kd.S_typed HO_y1.out) (by decide)) (fun k_ hk => ⟨trivial, fun e_ => (hk.2) (by rw [e_]; rfl)⟩))).1 k_ h_.symm)); have hxx11 := hccx2 0 _ rfl; (try simp only [show (k162).sz = 5 from rfl, Nat.mul_one, Nat.add_zero] at hxx11); have hfx6 := hfrx2 0; (try simp only [show (k162).sz = 5 from rfl, Nat.mul_one, Nat.add_zero] at hfx6); have hxx12 := hccx2 1 _ rfl; (try simp only [show (k162).sz = 5 from rfl, Nat.mul_one, Nat.add_zero] at hxx12); have hfx7 := hfrx2 1; (try simp only [show (k162).sz = 5 from rfl, Nat.mul_one, Nat.add_zero] at hfx7); have hxx13 := hccx2 2 _ rfl; (try simp only [show (k162).sz = 5 from rfl, Nat.mul_one, Nat.add_zero] at hxx13); have hfx8 := hfrx2 2; (try simp only [show (k162).sz = 5 from rfl, Nat.mul_one, Nat.add_zero] at hfx8); have hxx14 := hccx2 3 _ rfl; (try simp only [show (k162).sz = 5 from rfl, Nat.mul_one, Nat.add_zero] at hxx14); have hfx9 := hfrx2 3; (try simp only [show (k162).sz = 5 from rfl, Nat.mul_one, Nat.add_zero] at hfx9); have hxx15 := hccx2 4 _ rfl; (try simp only [show (k162).sz = 5 from rfl, Nat.mul_one, Nat.add_zero] at hxx15); have hfx10 := hfrx2 4; (try simp only [show (k162).sz = 5 from rfl, Nat.mul_one, Nat.add_zero] at hfx10); clear hclx2 hccx2 hfrx2 hMx2 hokix1 hHx1) | ((with_reducible refine gate_store (t := 162) (p := 21) rfl ?_); refine store_event (t := 162) (p := 21) (v := ?vo_wx2) (w1 := (((((wx1.setCell ⟨gox1, (x4_1 : Int).toNat * 5, none⟩ (.int .i64 t105)).setCell ⟨gox1, (x4_1 : Int).toNat * 5 + 1, none⟩ (.int .i64 t106)).setCell ⟨gox1, (x4_1 : Int).toNat * 5 + 2, none⟩ (.slice Aox1 t107.length cox2)).setCell ⟨gox1, (x4_1 : Int).toNat * 5 + 3, none⟩ (.int .i64 t110)).setCell ⟨gox1, (x4_1 : Int).toNat * 5 + 4, none⟩ (.slice Aox2 t111.length cox3))) ?hg ?ho ?hn ?hr ?_; (case ho => rfl); (case hg => rfl); (case hn => rfl); (case hr => first | (go_simp; done) | (go_simp; rfl)); intro wx2 hw; have hg : wx1.grownBy wx2 (some gox1) := (by rw [hw]; exact HPx1.2); have hp_ : Kd.S k162 162 wx2 w.heap.size (fun _ => True) (.slice (some ⟨gox1, 0, none⟩) x3_1.length cox1) y114 := (by rw [hw, Ny114.out]; exact HPx1.1); clear HPx1; replace HO_y1 := aM (hp_); replace HB := aM ((by rw [hw]; exact below_set (below_set (below_set (below_set (below_set (HB.out) GBx1.out) GBx1.out) GBx1.out) GBx1.out) GBx1.out : Below w.heap.size w wx2)); clear HOx1 HOx2; clear hg hw hp_))
   go_roundg k1
   case measure => have := HKy1.out; omega
   case rel => exact ⟨(y114), (wrap64 (x4_1 + 1)), rS, H', ⟨by have := HKy1.out; omega⟩, ⟨(sX HO_y1.out)⟩, ⟨(hX HB.out)⟩⟩
def laws_toMem.f (k : Nat) (l0_0 : List (S176)) (l0_1 : List (S155)) : Option ((List (S140)) × (List (S162))) := (laws_toWordS.f k l0_0).bind fun t104 => ((laws_toDescS.f k l0_1).bind fun t107 => (some (t104, t107)))
theorem laws_toMem.calls (k : Nat) (A0_0 : Option Addr) (c0_0 : Nat) (l0_0 : List (S176)) (A0_1 : Option Addr) (c0_1 : Nat) (l0_1 : List (S155)) (r1 : List (S140)) (r2 : List (S162)) (w : World) (hr0_0 : Kd.C k176 w A0_0 l0_0.length l0_0) (hc0_0 : l0_0.length ≤ c0_0) (hr0_1 : Kd.C k155 w A0_1 l0_1.length l0_1) (hc0_1 : l0_1.length ≤ c0_1) (h : laws_toMem.f k l0_0 l0_1 = some (r1, r2)) :
  Calls Tryz.prog 44 #[.agg #[.slice A0_0 l0_0.length c0_0, .slice A0_1 l0_1.length c0_1]] w fun e w' => ∃ v0_ v1_ : Value, e = .returned (.agg #[v0_, v1_]) ∧ Kd.R k140 140 w' w.heap.size (fun _ => True) v0_ r1 ∧ Kd.S k162 162 w' w.heap.size (fun _ => True) v1_ r2 ∧ Below w.heap.size w w' := by
 have hu25 := Tryz.underlying25
 have hu38 := Tryz.underlying38
 have HR0_0 := aM hr0_0
 have HC0_0 := aM hc0_0
 clear hr0_0 hc0_0
 have HR0_1 := aM hr0_1
 have HC0_1 := aM hc0_1
 clear hr0_1 hc0_1
 have HB := aM (Below.refl w.heap.size w)
 have H := h
 unfold laws_toMem.f at H
 clear h
 replace H := bE H; obtain ⟨t104, A2, H⟩ := H
 replace H := bE H; obtain ⟨t107, A3, H⟩ := H
 simp only [Option.some.injEq, Prod.mk.injEq] at H
 obtain ⟨rfl, rfl⟩ := H
 go_enter Tryz.func44, Tryz.ntmps44
 go_wp2_with (first | (refine boxE 1 #[.slice A0_0 l0_0.length c0_0, .slice A0_1 l0_1.length c0_1] 25 ?_; intro gbz1 hg wz1 hbox hb; have BKz1 := aM (hbox); have GWz1 := aG hg HB; have GEz1 := aG hg HB; replace HB := aS HB hb; clear hb hbox hg) | (refine boxE 2 #[.slice none 0 0, .slice none 0 0] 38 ?_; intro gbz2 hg wz2 hbox hb; have BKz2 := aM (hbox); have GWz2 := aG hg HB; have GEz2 := aG hg HB; have NBz1 := aL hg BKz1; have NBz2 := aR hg BKz1; replace BKz1 := aB BKz1 hb; replace HB := aS HB hb; clear hb hbox hg) | (refine boxE 3 #[.slice none 0 0, .slice none 0 0] 38 ?_; intro gbz3 hg wz3 hbox hb; have BKz3 := aM (hbox); have GWz3 := aG hg HB; have GEz3 := aG hg HB; have NBz3 := aL hg BKz1; have NBz4 := aR hg BKz1; have NBz5 := aL hg BKz2; have NBz6 := aR hg BKz2; replace BKz1 := aB BKz1 hb; replace BKz2 := aB BKz2 hb; replace HB := aS HB hb; clear hb hbox hg; have hnbz1 := NBz1.out; have hncz1 := NBz2.out; have hnbz2 := NBz3.out; have hncz2 := NBz4.out; have hczz1 := cZ2 BKz1.out) | (refine goesM 97 6 Tryz.func97 #[.slice A0_0 l0_0.length c0_0] ?_; refine (laws_toWordS.calls _ _ _ _ _ _ (cC HR0_0.out HB.out) HC0_0.out A2.out).mono ?_; rintro e wz4 ⟨vz1, rfl, hoz1, hb⟩; refine ⟨_, rfl, ?_⟩; have HOz1 := aM (Kd.R_lower hoz1 (below_size (hX HB.out))); replace BKz1 := aB BKz1 hb; replace BKz2 := aB BKz2 hb; replace BKz3 := aB BKz3 hb; replace HB := aS HB hb; clear hb hoz1; obtain ⟨Aoz1, coz1, eoz1⟩ := Kd.R_slice HOz1.out; subst eoz1; have hnbz3 := NBz6.out; have hncz3 := NBz5.out; have hczz3 := cZ2 BKz3.out; have hczz5 := cZ2 BKz1.out) | (refine goesM 98 10 Tryz.func98 #[.slice A0_1 l0_1.length c0_1] ?_; refine (laws_toDescS.calls k _ _ l0_1 t107 _ (by exact Kd.C_below HR0_1.out (hX HB.out)) HC0_1.out A3.out).mono ?_; rintro e wz5 ⟨vz2, rfl, hoz1, hb⟩; refine ⟨_, rfl, ?_⟩; have HOz2 := aM (Kd.S_lower hoz1 (below_size (hX HB.out))); replace HOz1 := aM (Kd.R_below (rF HOz1.out BKz3.out) hb); replace BKz1 := aF BKz1 hb; replace BKz2 := aF BKz2 hb; replace BKz3 := aM (blk_below (g := gbz3) (o := .cells #[.slice Aoz1 t104.length coz1, .slice none 0 0] 38 (0, 0)) (bP BKz3.out) hb); replace HB := aS HB hb; clear hb hoz1; obtain ⟨Aoz2, coz2, eoz2⟩ := Kd.S_slice HOz2.out; subst eoz2; have hczz7 := cZ2 BKz3.out; have hczz9 := cZ2 BKz2.out))
 refine bodyPost_ret (results_cell_row rfl _ _ gbz2 38 #[.slice Aoz1 t104.length coz1, .slice Aoz2 t107.length coz2] (0, 0) _ rfl (bP BKz2.out) Tryz.underlying38 rfl (by kernel_rfl)) rfl ?_
 exact ⟨_, _, rE, (rT (h := by exact Kd.R_mono (Kd.R_far (p := ⟨gbz2, 1, none⟩) (Kd.R_far (p := ⟨gbz2, 0, none⟩) (Kd.R_far (p := ⟨gbz3, 1, none⟩) (Kd.R_types (Kd.R_types HOz1.out BKz3.out (by decide)) BKz2.out (by decide)) (fun _ hk => hk.1.2) (.slice Aoz2 t107.length coz2)) (fun _ hk => hk.2) (.slice Aoz1 t104.length coz1)) (fun _ hk => hk.2) (.slice Aoz2 t107.length coz2)) (fun _ hk => trivial))), by (with_reducible repeat (first | apply Kd.S_alloc | apply Kd.S_drewN | apply Kd.S_drew)); exact Kd.S_mono (Kd.S_far (p := ⟨gbz2, 1, none⟩) (Kd.S_far (p := ⟨gbz2, 0, none⟩) (Kd.S_far (p := ⟨gbz3, 1, none⟩) (Kd.S_types (Kd.S_types HOz2.out BKz3.out (by decide)) BKz2.out (by decide)) (fun _ hk => hk.1.2) (.slice Aoz2 t107.length coz2)) (fun _ hk => hk.2) (.slice Aoz1 t104.length coz1)) (fun _ hk => hk.2) (.slice Aoz2 t107.length coz2)) (fun _ hk => trivial), (hX HB.out)⟩
def laws_toPair.f (a0_0 : Int) (a0_1 : Int) : Option (Int × Int) := some (a0_0, a0_1)
theorem laws_toPair.calls (a0_0 : Int) (a0_1 : Int) (r1 : Int) (r2 : Int) (w : World) (h : laws_toPair.f a0_0 a0_1 = some (r1, r2)) :
  Calls Tryz.prog 206 #[.agg #[.int .i64 a0_0, .int .i64 a0_1]] w fun e w' => e = .returned (.agg #[.int .i64 r1, .int .i64 r2]) ∧ Below w.heap.size w w' := by
 have hu204 := Tryz.underlying204
 have hu172 := Tryz.underlying172
 have HB := aM (Below.refl w.heap.size w)
 have H := h
 unfold laws_toPair.f at H
 clear h
 simp only [Option.some.injEq, Prod.mk.injEq] at H
 obtain ⟨rfl, rfl⟩ := H
 go_enter Tryz.func206, Tryz.ntmps206
 go_wp2_with (first | (refine boxE 1 #[.int .i64 a0_0, .int .i64 a0_1] 204 ?_; intro gbz1 hg wz1 hbox hb; have BKz1 := aM (hbox); have GWz1 := aG hg HB; have GEz1 := aG hg HB; replace HB := aS HB hb; clear hb hbox hg) | (refine boxE 2 #[.int .i64 0, .int .i64 0] 172 ?_; intro gbz2 hg wz2 hbox hb; have BKz2 := aM (hbox); have GWz2 := aG hg HB; have GEz2 := aG hg HB; have NBz1 := aL hg BKz1; have NBz2 := aR hg BKz1; replace BKz1 := aB BKz1 hb; replace HB := aS HB hb; clear hb hbox hg) | (refine boxE 3 #[.int .i64 0, .int .i64 0] 172 ?_; intro gbz3 hg wz3 hbox hb; have BKz3 := aM (hbox); have GWz3 := aG hg HB; have GEz3 := aG hg HB; have NBz3 := aL hg BKz1; have NBz4 := aR hg BKz1; have NBz5 := aL hg BKz2; have NBz6 := aR hg BKz2; replace BKz1 := aB BKz1 hb; replace BKz2 := aB BKz2 hb; replace HB := aS HB hb; clear hb hbox hg; have hnbz1 := NBz1.out; have hncz1 := NBz2.out; have hnbz2 := NBz3.out; have hncz2 := NBz4.out; have hczz1 := cZ2 BKz1.out; have hnbz3 := NBz6.out; have hncz3 := NBz5.out; have hczz3 := cZ2 BKz3.out; have hczz5 := cZ2 BKz2.out))
 refine bodyPost_ret (results_cell_row rfl _ _ gbz2 172 #[.int .i64 a0_0, .int .i64 a0_1] (0, 0) _ rfl (bP BKz2.out) Tryz.underlying172 rfl (by kernel_rfl)) rfl ?_
 exact ⟨rE, (hX HB.out)⟩
def laws_toPairS.l0 : Nat → List (S204) → List (S172) → Int → Option ((List (S172)))
 | 0, _, _, _ => none
 | k + 1, x0, x3, x4 => if x4 < (x0.length : Int) then (if 0 ≤ x4 then ((laws_toPair.f ((rd_T204 x0 x4).f0) ((rd_T204 x0 x4).f1)).bind fun bt105 => (if x4 < (x3.length : Int) then (laws_toPairS.l0 k x0 (x3.set (x4 : Int).toNat (⟨bt105.1, bt105.2⟩ : S172)) (wrap64 (x4 + 1))) else (none))) else (none)) else (some x3)
def laws_toPairS.f (k : Nat) (l0 : List (S204)) : Option ((List (S172))) := if 0 ≤ (l0.length : Int) then (if ((l0.length : Int) : Int).toNat ≤ 17592186044416 then (laws_toPairS.l0 k l0 (List.replicate ((l0.length : Int) : Int).toNat z172) 0) else (none)) else (none)
theorem laws_toPairS.calls (k : Nat) (A0 : Option Addr) (c0 : Nat) (l0 : List (S204)) (r : List (S172)) (w : World) (hr0 : Kd.C k204 w A0 l0.length l0) (hc0 : l0.length ≤ c0) (h : laws_toPairS.f k l0 = some r) :
  Calls Tryz.prog 166 #[.slice A0 l0.length c0] w fun e w' => ∃ v0_ : Value, e = .returned (v0_) ∧ Kd.R k172 172 w' w.heap.size (fun _ => True) v0_ r ∧ Below w.heap.size w w' := by
 have hu204 := Tryz.underlying204
 have hu172 := Tryz.underlying172
 have HR0 := aM hr0
 have HC0 := aM hc0
 clear hr0 hc0
 have HB := aM (Below.refl w.heap.size w)
 have H := h
 unfold laws_toPairS.f at H
 clear h
 replace H := ifP H; obtain ⟨c2, H⟩ := H
 have c2b0 := eq_true c2
 have c2b1 := decide_eq_true c2
 clear c2
 replace H := ifP H; obtain ⟨c3, H⟩ := H
 have c3b0 := eq_true c3
 have c3b1 := decide_eq_true c3
 clear c3
 obtain ⟨y101, hy101⟩ : ∃ y_ : List (S172), y_ = (List.replicate ((l0.length : Int) : Int).toNat z172) := ⟨_, rfl⟩
 replace H : (laws_toPairS.l0 k l0 y101 0) = some r := yH H hy101
 have Ny101 := aM hy101
 clear hy101
 have H' := aM H
 clear H
 go_enter Tryz.func166, Tryz.ntmps166
 go_wp2_with ((with_reducible refine gate_dst (N := 7) rfl ?_); refine Kd.R_make k172 _ 172 rfl (N := 7) rfl 94 _ _ rfl (l0.length : Int) rfl rfl Tryz.underlying94 (.agg #[(.int .i64 0), (.int .i64 0)]) 16 info172 rfl (by decide) (by omega) z172 (ok := fun _ => True) (okp := fun _ => True) (k172_mkM _ _ _ z172 ) (fun _ hk => hk) trivial (odA) (Nat.le_trans (Nat.mul_le_mul_right _ (odA : (l0.length : Int).toNat ≤ 17592186044416)) (by omega)) (Below.refl _ _) (Nat.le_refl _) ?_; intro vz1 wz1 hoz1 hb hg_ hnew_; clear hg_ hnew_; (first | rw [← Ny101.out] at hoz1 | (simp only [Int.reduceToNat] at hoz1; rw [← Ny101.out] at hoz1)); have HOz1 := aM (Kd.R_lower hoz1 (below_size (hX HB.out))); replace HB := aS HB hb; clear hb hoz1)
 go_loopg [4] k (fun kq v4 w' => ∃ (x3_1 : List (S172)) (x4_1 : Int), v4 = .int .i64 x4_1 ∧ Aside0 (laws_toPairS.l0 kq l0 x3_1 x4_1 = some r) ∧ Aside0 (kq ≤ k) ∧ Aside0 (Kd.R k172 172 w' w.heap.size (fun _ => True) vz1 x3_1) ∧ Aside0 (Below w.heap.size w w'))
 case atStart => exact ⟨(y101), (0), rS, H', ⟨Nat.le_refl _⟩, ⟨(rX HOz1.out)⟩, ⟨(hX HB.out)⟩⟩
 case round =>
  clear H'
  try clear c2
  try clear c2b0
  try clear c2b1
  try clear c3
  try clear c3b0
  try clear c3b1
  obtain ⟨x3_1, x4_1, rfl, HA, HKy1, HO_y1, HB⟩ := hrel
  cases gk with
  | zero => exact absurd HA.out (by simp [laws_toPairS.l0])
  | succ k1 =>
   have H := HA.out
   clear HA
   simp only [laws_toPairS.l0] at H
   revert H; refine iN (fun c6b0 H => ?_) (fun c6b0 H => ?_)
   ·obtain rfl := sI H
    go_wp2
    go_ret
    exact ⟨_, rE, (rX HO_y1.out), (hX HB.out)⟩
   replace H := ifQ H; obtain ⟨c7b0, H⟩ := H
   replace H := bE H; obtain ⟨⟨t105, t106⟩, A8, H⟩ := H
   try dsimp only at H
   replace H := ifQ H; obtain ⟨c9b0, H⟩ := H
   obtain ⟨y107, hy107⟩ : ∃ y_ : List (S172), y_ = (x3_1.set (x4_1 : Int).toNat (⟨t105, t106⟩ : S172)) := ⟨_, rfl⟩
   replace H : (laws_toPairS.l0 k1 l0 y107 (wrap64 (x4_1 + 1))) = some r := yH H hy107
   have Ny107 := aM hy107
   clear hy107
   have H' := aM H
   clear H
   obtain ⟨adx1, ex1, px1, qx1, hxx1⟩ := at_T204c HR0 HB x4_1
   cases ex1
   go_wp2_with (first | (refine gB 206 20 Tryz.func206 (laws_toPair.calls _ _ _ _ _ A8.out) ?_; intro wx1 hb; replace HO_y1 := aQ HO_y1 hb; replace HB := aS HB hb; clear hb; have px2 : 0 ≤ (x4_1 : Int) := odA; have qx2 : (x4_1 : Int) < ((x3_1.length : Int) : Int) := odA; obtain ⟨gox1, cox1, eox1, gbx1, glx1, clx1, HGx1⟩ := Kd.R_form HO_y1.out (by omega); (first | cases eox1 | (injection eox1 with ea_ en_ ec_; (first | subst ea_ | (injection ea_ with ea_; subst ea_)); subst ec_; clear en_)); have GBx1 := aM gbx1; have GGx1 := aM HGx1; clear gbx1 glx1 HGx1; obtain ⟨cex1, hclx1, hMx1, hccx1, hfrx1⟩ := Kd.R_elem HO_y1.out z172 (x4_1 : Int) px2 qx2; obtain rfl := k172_openM hMx1; have hxx3 : wx1.cell? ⟨gox1, (x4_1 : Int).toNat * 2, none⟩ = some (.int .i64 ((rd_T172 x3_1 x4_1).f0)) := hccx1 0 _ rfl; have hxx4 : wx1.cell? ⟨gox1, (x4_1 : Int).toNat * 2 + 1, none⟩ = some (.int .i64 ((rd_T172 x3_1 x4_1).f1)) := hccx1 1 _ rfl; have hfx1 : wx1.frozen? ⟨gox1, (x4_1 : Int).toNat * 2, none⟩ = false := hfrx1 0; have hfx2 : wx1.frozen? ⟨gox1, (x4_1 : Int).toNat * 2 + 1, none⟩ = false := hfrx1 1; clear hclx1 hccx1 hfrx1 hMx1; replace px2 := eq_true px2; replace qx2 := eq_true qx2; have HXx1 := aM (show Kd.R k172 172 wx1 w.heap.size (fun _ => True) (.slice (some ⟨gox1, 0, none⟩) x3_1.length cox1) x3_1 from (rX HO_y1.out)); obtain ⟨cex2, hclx2, hMx2, hccx2, hfrx2⟩ := Kd.R_elem HXx1.out z172 (x4_1 : Int) (odA) (by have h_ : (x4_1 : Int) < ((x3_1.length : Int) : Int) := odA; first | exact h_ | (have e_ := (Kd.R_reads' HO_y1.out).1; omega) | simpa using h_); obtain rfl := k172_openM hMx2; have HPx1 := Kd.R_seg HXx1.out (x4_1 : Int) (odA) (by have h_ : (x4_1 : Int) < ((x3_1.length : Int) : Int) := odA; first | exact h_ | (have e_ := (Kd.R_reads' HO_y1.out).1; omega) | simpa using h_) (seg := [.int .i64 t105, .int .i64 t106]) (j := 0) hclx2 hccx2 (show 2 ≤ 2 from by decide) (x' := (⟨t105, t106⟩ : S172)) (k172_mkM _ _ _ (⟨t105, t106⟩ : S172) ) (fun _ hk => hk); have hxx5 := hccx2 0 _ rfl; (try simp only [show (k172).sz = 2 from rfl, Nat.mul_one, Nat.add_zero] at hxx5); have hfx3 := hfrx2 0; (try simp only [show (k172).sz = 2 from rfl, Nat.mul_one, Nat.add_zero] at hfx3); have hxx6 := hccx2 1 _ rfl; (try simp only [show (k172).sz = 2 from rfl, Nat.mul_one, Nat.add_zero] at hxx6); have hfx4 := hfrx2 1; (try simp only [show (k172).sz = 2 from rfl, Nat.mul_one, Nat.add_zero] at hfx4); clear hclx2 hccx2 hfrx2 hMx2) | ((with_reducible refine gate_store (t := 172) (p := 21) rfl ?_); refine store_event (t := 172) (p := 21) (v := ?vo_wx2) (w1 := ((wx1.setCell ⟨gox1, (x4_1 : Int).toNat * 2, none⟩ (.int .i64 t105)).setCell ⟨gox1, (x4_1 : Int).toNat * 2 + 1, none⟩ (.int .i64 t106))) ?hg ?ho ?hn ?hr ?_; (case ho => rfl); (case hg => rfl); (case hn => rfl); (case hr => first | (go_simp; done) | (go_simp; rfl)); intro wx2 hw; have hg : wx1.grownBy wx2 (some gox1) := (by rw [hw]; exact HPx1.2); have hp_ : Kd.R k172 172 wx2 w.heap.size (fun _ => True) (.slice (some ⟨gox1, 0, none⟩) x3_1.length cox1) y107 := (by rw [hw, Ny107.out]; exact HPx1.1); clear HPx1; replace HO_y1 := aM (hp_); replace HB := aM ((by rw [hw]; exact below_set (below_set (HB.out) GBx1.out) GBx1.out : Below w.heap.size w wx2)); clear hg hw hp_))
   go_roundg k1
   case measure => have := HKy1.out; omega
   case rel => exact ⟨(y107), (wrap64 (x4_1 + 1)), rS, H', ⟨by have := HKy1.out; omega⟩, ⟨(rX HO_y1.out)⟩, ⟨(hX HB.out)⟩⟩
def laws_toHelp.f (a0_0 : Int) (a0_1 : Int) (a0_2 : Int) (a0_3 : Int) : Option (Int × Int × Int × Int) := some (a0_0, a0_1, a0_2, a0_3)
theorem laws_toHelp.calls (a0_0 : Int) (a0_1 : Int) (a0_2 : Int) (a0_3 : Int) (r1 : Int) (r2 : Int) (r3 : Int) (r4 : Int) (w : World) (h : laws_toHelp.f a0_0 a0_1 a0_2 a0_3 = some (r1, r2, r3, r4)) :
  Calls Tryz.prog 207 #[.agg #[.int .i64 a0_0, .int .i64 a0_1, .int .i64 a0_2, .int .i64 a0_3]] w fun e w' => e = .returned (.agg #[.int .i64 r1, .int .i64 r2, .int .i64 r3, .int .i64 r4]) ∧ Below w.heap.size w w' := by
 have hu206 := Tryz.underlying206
 have hu174 := Tryz.underlying174
 have HB := aM (Below.refl w.heap.size w)
 have H := h
 unfold laws_toHelp.f at H
 clear h
 simp only [Option.some.injEq, Prod.mk.injEq] at H
 obtain ⟨rfl, rfl, rfl, rfl⟩ := H
 go_enter Tryz.func207, Tryz.ntmps207
 go_wp2_with (first | (refine boxE 1 #[.int .i64 a0_0, .int .i64 a0_1, .int .i64 a0_2, .int .i64 a0_3] 206 ?_; intro gbz1 hg wz1 hbox hb; have BKz1 := aM (hbox); have GWz1 := aG hg HB; have GEz1 := aG hg HB; replace HB := aS HB hb; clear hb hbox hg) | (refine boxE 2 #[.int .i64 0, .int .i64 0, .int .i64 0, .int .i64 0] 174 ?_; intro gbz2 hg wz2 hbox hb; have BKz2 := aM (hbox); have GWz2 := aG hg HB; have GEz2 := aG hg HB; have NBz1 := aL hg BKz1; have NBz2 := aR hg BKz1; replace BKz1 := aB BKz1 hb; replace HB := aS HB hb; clear hb hbox hg) | (refine boxE 3 #[.int .i64 0, .int .i64 0, .int .i64 0, .int .i64 0] 174 ?_; intro gbz3 hg wz3 hbox hb; have BKz3 := aM (hbox); have GWz3 := aG hg HB; have GEz3 := aG hg HB; have NBz3 := aL hg BKz1; have NBz4 := aR hg BKz1; have NBz5 := aL hg BKz2; have NBz6 := aR hg BKz2; replace BKz1 := aB BKz1 hb; replace BKz2 := aB BKz2 hb; replace HB := aS HB hb; clear hb hbox hg; have hnbz1 := NBz1.out; have hncz1 := NBz2.out; have hnbz2 := NBz3.out; have hncz2 := NBz4.out; have hczz1 := cZ4 BKz1.out; have hnbz3 := NBz6.out; have hncz3 := NBz5.out; have hczz5 := cZ4 BKz3.out; have hczz9 := cZ4 BKz2.out))
 refine bodyPost_ret (results_cell_row rfl _ _ gbz2 174 #[.int .i64 a0_0, .int .i64 a0_1, .int .i64 a0_2, .int .i64 a0_3] (0, 0) _ rfl (bP BKz2.out) Tryz.underlying174 rfl (by kernel_rfl)) rfl ?_
 exact ⟨rE, (hX HB.out)⟩
def laws_toHelpS.l0 : Nat → List (S206) → List (S174) → Int → Option ((List (S174)))
 | 0, _, _, _ => none
 | k + 1, x0, x3, x4 => if x4 < (x0.length : Int) then (if 0 ≤ x4 then ((laws_toHelp.f ((rd_T206 x0 x4).f0) ((rd_T206 x0 x4).f1) ((rd_T206 x0 x4).f2) ((rd_T206 x0 x4).f3)).bind fun bt105 => (if x4 < (x3.length : Int) then (laws_toHelpS.l0 k x0 (x3.set (x4 : Int).toNat (⟨bt105.1, bt105.2.1, bt105.2.2.1, bt105.2.2.2⟩ : S174)) (wrap64 (x4 + 1))) else (none))) else (none)) else (some x3)
def laws_toHelpS.f (k : Nat) (l0 : List (S206)) : Option ((List (S174))) := if 0 ≤ (l0.length : Int) then (if ((l0.length : Int) : Int).toNat ≤ 8796093022208 then (laws_toHelpS.l0 k l0 (List.replicate ((l0.length : Int) : Int).toNat z174) 0) else (none)) else (none)
theorem laws_toHelpS.calls (k : Nat) (A0 : Option Addr) (c0 : Nat) (l0 : List (S206)) (r : List (S174)) (w : World) (hr0 : Kd.C k206 w A0 l0.length l0) (hc0 : l0.length ≤ c0) (h : laws_toHelpS.f k l0 = some r) :
  Calls Tryz.prog 167 #[.slice A0 l0.length c0] w fun e w' => ∃ v0_ : Value, e = .returned (v0_) ∧ Kd.R k174 174 w' w.heap.size (fun _ => True) v0_ r ∧ Below w.heap.size w w' := by
 have hu206 := Tryz.underlying206
 have hu174 := Tryz.underlying174
 have HR0 := aM hr0
 have HC0 := aM hc0
 clear hr0 hc0
 have HB := aM (Below.refl w.heap.size w)
 have H := h
 unfold laws_toHelpS.f at H
 clear h
 replace H := ifP H; obtain ⟨c2, H⟩ := H
 have c2b0 := eq_true c2
 have c2b1 := decide_eq_true c2
 clear c2
 replace H := ifP H; obtain ⟨c3, H⟩ := H
 have c3b0 := eq_true c3
 have c3b1 := decide_eq_true c3
 clear c3
 obtain ⟨y101, hy101⟩ : ∃ y_ : List (S174), y_ = (List.replicate ((l0.length : Int) : Int).toNat z174) := ⟨_, rfl⟩
 replace H : (laws_toHelpS.l0 k l0 y101 0) = some r := yH H hy101
 have Ny101 := aM hy101
 clear hy101
 have H' := aM H
 clear H
 go_enter Tryz.func167, Tryz.ntmps167
 go_wp2_with ((with_reducible refine gate_dst (N := 7) rfl ?_); refine Kd.R_make k174 _ 174 rfl (N := 7) rfl 95 _ _ rfl (l0.length : Int) rfl rfl Tryz.underlying95 (.agg #[(.int .i64 0), (.int .i64 0), (.int .i64 0), (.int .i64 0)]) 32 info174 rfl (by decide) (by omega) z174 (ok := fun _ => True) (okp := fun _ => True) (k174_mkM _ _ _ z174 ) (fun _ hk => hk) trivial (odA) (Nat.le_trans (Nat.mul_le_mul_right _ (odA : (l0.length : Int).toNat ≤ 8796093022208)) (by omega)) (Below.refl _ _) (Nat.le_refl _) ?_; intro vz1 wz1 hoz1 hb hg_ hnew_; clear hg_ hnew_; (first | rw [← Ny101.out] at hoz1 | (simp only [Int.reduceToNat] at hoz1; rw [← Ny101.out] at hoz1)); have HOz1 := aM (Kd.R_lower hoz1 (below_size (hX HB.out))); replace HB := aS HB hb; clear hb hoz1)
 go_loopg [4] k (fun kq v4 w' => ∃ (x3_1 : List (S174)) (x4_1 : Int), v4 = .int .i64 x4_1 ∧ Aside0 (laws_toHelpS.l0 kq l0 x3_1 x4_1 = some r) ∧ Aside0 (kq ≤ k) ∧ Aside0 (Kd.R k174 174 w' w.heap.size (fun _ => True) vz1 x3_1) ∧ Aside0 (Below w.heap.size w w'))
 case atStart => exact ⟨(y101), (0), rS, H', ⟨Nat.le_refl _⟩, ⟨(rX HOz1.out)⟩, ⟨(hX HB.out)⟩⟩
 case round =>
  clear H'
  try clear c2
  try clear c2b0
  try clear c2b1
  try clear c3
  try clear c3b0
  try clear c3b1
  obtain ⟨x3_1, x4_1, rfl, HA, HKy1, HO_y1, HB⟩ := hrel
  cases gk with
  | zero => exact absurd HA.out (by simp [laws_toHelpS.l0])
  | succ k1 =>
   have H := HA.out
   clear HA
   simp only [laws_toHelpS.l0] at H
   revert H; refine iN (fun c6b0 H => ?_) (fun c6b0 H => ?_)
   ·obtain rfl := sI H
    go_wp2
    go_ret
    exact ⟨_, rE, (rX HO_y1.out), (hX HB.out)⟩
   replace H := ifQ H; obtain ⟨c7b0, H⟩ := H
   replace H := bE H; obtain ⟨⟨t105, t106, t107, t108⟩, A8, H⟩ := H
   try dsimp only at H
   replace H := ifQ H; obtain ⟨c9b0, H⟩ := H
   obtain ⟨y109, hy109⟩ : ∃ y_ : List (S174), y_ = (x3_1.set (x4_1 : Int).toNat (⟨t105, t106, t107, t108⟩ : S174)) := ⟨_, rfl⟩
   replace H : (laws_toHelpS.l0 k1 l0 y109 (wrap64 (x4_1 + 1))) = some r := yH H hy109
   have Ny109 := aM hy109
   clear hy109
   have H' := aM H
   clear H
   obtain ⟨adx1, ex1, px1, qx1, hxx1⟩ := at_T206c HR0 HB x4_1
   cases ex1
   go_wp2_with (first | (refine gB 207 20 Tryz.func207 (laws_toHelp.calls _ _ _ _ _ _ _ _ _ A8.out) ?_; intro wx1 hb; replace HO_y1 := aQ HO_y1 hb; replace HB := aS HB hb; clear hb; have px2 : 0 ≤ (x4_1 : Int) := odA; have qx2 : (x4_1 : Int) < ((x3_1.length : Int) : Int) := odA; obtain ⟨gox1, cox1, eox1, gbx1, glx1, clx1, HGx1⟩ := Kd.R_form HO_y1.out (by omega); (first | cases eox1 | (injection eox1 with ea_ en_ ec_; (first | subst ea_ | (injection ea_ with ea_; subst ea_)); subst ec_; clear en_)); have GBx1 := aM gbx1; have GGx1 := aM HGx1; clear gbx1 glx1 HGx1; obtain ⟨cex1, hclx1, hMx1, hccx1, hfrx1⟩ := Kd.R_elem HO_y1.out z174 (x4_1 : Int) px2 qx2; obtain rfl := k174_openM hMx1; have hxx5 : wx1.cell? ⟨gox1, (x4_1 : Int).toNat * 4, none⟩ = some (.int .i64 ((rd_T174 x3_1 x4_1).f0)) := hccx1 0 _ rfl; have hxx6 : wx1.cell? ⟨gox1, (x4_1 : Int).toNat * 4 + 1, none⟩ = some (.int .i64 ((rd_T174 x3_1 x4_1).f1)) := hccx1 1 _ rfl; have hxx7 : wx1.cell? ⟨gox1, (x4_1 : Int).toNat * 4 + 2, none⟩ = some (.int .i64 ((rd_T174 x3_1 x4_1).f2)) := hccx1 2 _ rfl; have hxx8 : wx1.cell? ⟨gox1, (x4_1 : Int).toNat * 4 + 3, none⟩ = some (.int .i64 ((rd_T174 x3_1 x4_1).f3)) := hccx1 3 _ rfl; have hfx1 : wx1.frozen? ⟨gox1, (x4_1 : Int).toNat * 4, none⟩ = false := hfrx1 0; have hfx2 : wx1.frozen? ⟨gox1, (x4_1 : Int).toNat * 4 + 1, none⟩ = false := hfrx1 1; have hfx3 : wx1.frozen? ⟨gox1, (x4_1 : Int).toNat * 4 + 2, none⟩ = false := hfrx1 2; have hfx4 : wx1.frozen? ⟨gox1, (x4_1 : Int).toNat * 4 + 3, none⟩ = false := hfrx1 3; clear hclx1 hccx1 hfrx1 hMx1; replace px2 := eq_true px2; replace qx2 := eq_true qx2; have HXx1 := aM (show Kd.R k174 174 wx1 w.heap.size (fun _ => True) (.slice (some ⟨gox1, 0, none⟩) x3_1.length cox1) x3_1 from (rX HO_y1.out)); obtain ⟨cex2, hclx2, hMx2, hccx2, hfrx2⟩ := Kd.R_elem HXx1.out z174 (x4_1 : Int) (odA) (by have h_ : (x4_1 : Int) < ((x3_1.length : Int) : Int) := odA; first | exact h_ | (have e_ := (Kd.R_reads' HO_y1.out).1; omega) | simpa using h_); obtain rfl := k174_openM hMx2; have HPx1 := Kd.R_seg HXx1.out (x4_1 : Int) (odA) (by have h_ : (x4_1 : Int) < ((x3_1.length : Int) : Int) := odA; first | exact h_ | (have e_ := (Kd.R_reads' HO_y1.out).1; omega) | simpa using h_) (seg := [.int .i64 t105, .int .i64 t106, .int .i64 t107, .int .i64 t108]) (j := 0) hclx2 hccx2 (show 4 ≤ 4 from by decide) (x' := (⟨t105, t106, t107, t108⟩ : S174)) (k174_mkM _ _ _ (⟨t105, t106, t107, t108⟩ : S174) ) (fun _ hk => hk); have hxx9 := hccx2 0 _ rfl; (try simp only [show (k174).sz = 4 from rfl, Nat.mul_one, Nat.add_zero] at hxx9); have hfx5 := hfrx2 0; (try simp only [show (k174).sz = 4 from rfl, Nat.mul_one, Nat.add_zero] at hfx5); have hxx10 := hccx2 1 _ rfl; (try simp only [show (k174).sz = 4 from rfl, Nat.mul_one, Nat.add_zero] at hxx10); have hfx6 := hfrx2 1; (try simp only [show (k174).sz = 4 from rfl, Nat.mul_one, Nat.add_zero] at hfx6); have hxx11 := hccx2 2 _ rfl; (try simp only [show (k174).sz = 4 from rfl, Nat.mul_one, Nat.add_zero] at hxx11); have hfx7 := hfrx2 2; (try simp only [show (k174).sz = 4 from rfl, Nat.mul_one, Nat.add_zero] at hfx7); have hxx12 := hccx2 3 _ rfl; (try simp only [show (k174).sz = 4 from rfl, Nat.mul_one, Nat.add_zero] at hxx12); have hfx8 := hfrx2 3; (try simp only [show (k174).sz = 4 from rfl, Nat.mul_one, Nat.add_zero] at hfx8); clear hclx2 hccx2 hfrx2 hMx2) | ((with_reducible refine gate_store (t := 174) (p := 21) rfl ?_); refine store_event (t := 174) (p := 21) (v := ?vo_wx2) (w1 := ((((wx1.setCell ⟨gox1, (x4_1 : Int).toNat * 4, none⟩ (.int .i64 t105)).setCell ⟨gox1, (x4_1 : Int).toNat * 4 + 1, none⟩ (.int .i64 t106)).setCell ⟨gox1, (x4_1 : Int).toNat * 4 + 2, none⟩ (.int .i64 t107)).setCell ⟨gox1, (x4_1 : Int).toNat * 4 + 3, none⟩ (.int .i64 t108))) ?hg ?ho ?hn ?hr ?_; (case ho => rfl); (case hg => rfl); (case hn => rfl); (case hr => first | (go_simp; done) | (go_simp; rfl)); intro wx2 hw; have hg : wx1.grownBy wx2 (some gox1) := (by rw [hw]; exact HPx1.2); have hp_ : Kd.R k174 174 wx2 w.heap.size (fun _ => True) (.slice (some ⟨gox1, 0, none⟩) x3_1.length cox1) y109 := (by rw [hw, Ny109.out]; exact HPx1.1); clear HPx1; replace HO_y1 := aM (hp_); replace HB := aM ((by rw [hw]; exact below_set (below_set (below_set (below_set (HB.out) GBx1.out) GBx1.out) GBx1.out) GBx1.out : Below w.heap.size w wx2)); clear hg hw hp_))
   go_roundg k1
   case measure => have := HKy1.out; omega
   case rel => exact ⟨(y109), (wrap64 (x4_1 + 1)), rS, H', ⟨by have := HKy1.out; omega⟩, ⟨(rX HO_y1.out)⟩, ⟨(hX HB.out)⟩⟩
def laws_toOp.f (a0_0 : Int) (a0_1 : Int) (a0_2 : Int) : Option (Int × Int × Int) := some (a0_0, a0_1, a0_2)
theorem laws_toOp.calls (a0_0 : Int) (a0_1 : Int) (a0_2 : Int) (r1 : Int) (r2 : Int) (r3 : Int) (w : World) (h : laws_toOp.f a0_0 a0_1 a0_2 = some (r1, r2, r3)) :
  Calls Tryz.prog 126 #[.agg #[.int .i64 a0_0, .int .i64 a0_1, .int .i64 a0_2]] w fun e w' => e = .returned (.agg #[.int .i64 r1, .int .i64 r2, .int .i64 r3]) ∧ Below w.heap.size w w' := by
 have hu116 := Tryz.underlying116
 have hu69 := Tryz.underlying69
 have HB := aM (Below.refl w.heap.size w)
 have H := h
 unfold laws_toOp.f at H
 clear h
 simp only [Option.some.injEq, Prod.mk.injEq] at H
 obtain ⟨rfl, rfl, rfl⟩ := H
 go_enter Tryz.func126, Tryz.ntmps126
 go_wp2_with (first | (refine boxE 1 #[.int .i64 a0_0, .int .i64 a0_1, .int .i64 a0_2] 116 ?_; intro gbz1 hg wz1 hbox hb; have BKz1 := aM (hbox); have GWz1 := aG hg HB; have GEz1 := aG hg HB; replace HB := aS HB hb; clear hb hbox hg) | (refine boxE 2 #[.int .i64 0, .int .i64 0, .int .i64 0] 69 ?_; intro gbz2 hg wz2 hbox hb; have BKz2 := aM (hbox); have GWz2 := aG hg HB; have GEz2 := aG hg HB; have NBz1 := aL hg BKz1; have NBz2 := aR hg BKz1; replace BKz1 := aB BKz1 hb; replace HB := aS HB hb; clear hb hbox hg) | (refine boxE 3 #[.int .i64 0, .int .i64 0, .int .i64 0] 69 ?_; intro gbz3 hg wz3 hbox hb; have BKz3 := aM (hbox); have GWz3 := aG hg HB; have GEz3 := aG hg HB; have NBz3 := aL hg BKz1; have NBz4 := aR hg BKz1; have NBz5 := aL hg BKz2; have NBz6 := aR hg BKz2; replace BKz1 := aB BKz1 hb; replace BKz2 := aB BKz2 hb; replace HB := aS HB hb; clear hb hbox hg; have hnbz1 := NBz1.out; have hncz1 := NBz2.out; have hnbz2 := NBz3.out; have hncz2 := NBz4.out; have hczz1 := cZ3 BKz1.out; have hnbz3 := NBz6.out; have hncz3 := NBz5.out; have hczz4 := cZ3 BKz3.out; have hczz7 := cZ3 BKz2.out))
 refine bodyPost_ret (results_cell_row rfl _ _ gbz2 69 #[.int .i64 a0_0, .int .i64 a0_1, .int .i64 a0_2] (0, 0) _ rfl (bP BKz2.out) Tryz.underlying69 rfl (by kernel_rfl)) rfl ?_
 exact ⟨rE, (hX HB.out)⟩
end Go.Proofs.YtmljebgideecjaaGreat.P2

/- A part of the proof of the law FnExactMachineText: texts of this seat, merged (words, printed functions of the program, plain lemmas). Conditions: none of its own. -/
import Derived.OpenShut
import Derived.DataElems
import Derived.DataReads
import Derived.Test.YtmljebgideecjaaGreatChecked
import Derived.Lib.Join
import Derived.Test.YtmljebgideecjaaGreatPkFnExactMachineText3
namespace Go.Proofs.YtmljebgideecjaaGreat.P
open Go.Proofs.YtmljebgideecjaaGreatZ Go.RowKit Go.Proofs.YtmljebgideecjaaGreatW.PrintWords Go.Proofs.YtmljebgideecjaaGreatW.PrintLast Go.Proofs.YtmljebgideecjaaGreatW.PrintMore
attribute [local go_sem] max2_int min2_int max_two min_two max_three min_three max_four min_four   -- for this text's walks alone
set_option linter.unusedVariables false
set_option linter.unusedSimpArgs false
def impl_RowsIn.f (l0 : List Int) : Option (List Int × Int) := if (l0.length : Int) = 20 then (if 4 ≤ (l0.length : Int) then ((slices_Clone_int_int.f (l0.take 4)).bind fun t103 => ((impl_StateAt.f).bind fun t106 => (if 0 ≤ t106 then (if t106 < (l0.length : Int) then (some (t103, rd l0 t106)) else (none)) else (none)))) else (none)) else (some (([] : List Int), 0))
set_option maxHeartbeats 8000000 in
set_option maxRecDepth 100000 in
theorem impl_RowsIn.calls (A0 : Option Addr) (c0 : Nat) (l0 : List Int) (r1 : List Int) (r2 : Int) (w : World) (hr0 : Kd.C (Kd.int .i64) w A0 l0.length l0) (hc0 : l0.length ≤ c0) (h : impl_RowsIn.f l0 = some (r1, r2)) :
    Calls Tryz.prog 59 #[.slice A0 l0.length c0] w fun e w' => ∃ v0_ : Value, e = .returned (.agg #[v0_, .int .i64 r2]) ∧ Kd.R (Kd.int .i64) 3 w' w.heap.size (fun _ => True) v0_ r1 ∧ Below w.heap.size w w' := by
  have hu41 := Tryz.underlying41
  have HR0 := Aside0.mk hr0
  have HC0 := Aside0.mk hc0
  clear hr0 hc0
  have HB := Aside0.mk (Below.refl w.heap.size w)
  have H := h
  unfold impl_RowsIn.f at H
  clear h
  go_enter Tryz.func59, Tryz.ntmps59
  by_cases c2 : (l0.length : Int) = 20
  · rw [if_pos c2] at H
    obtain ⟨c2b0, c2b1⟩ := eqT c2
    clear c2
    replace H := ifP H; obtain ⟨c3, H⟩ := H
    have c3b0 := eq_true c3
    have c3b1 := decide_eq_true c3
    clear c3
    replace H := bE H; obtain ⟨t103, A4, H⟩ := H
    replace H := bE H; obtain ⟨t106, A5, H⟩ := H
    replace H := ifP H; obtain ⟨c6, H⟩ := H
    have c6b0 := decide_eq_true c6
    clear c6
    replace H := ifP H; obtain ⟨c7, H⟩ := H
    have c7b0 := decide_eq_true c7
    clear c7
    simp only [Option.some.injEq, Prod.mk.injEq] at H
    obtain ⟨rfl, rfl⟩ := H
    go_wp2_with (first | (refine boxE 2 #[.slice none 0 0, .int .i64 0] 41 ?_; intro gbz1 hg wz1 hbox hb; have BKz1 := Aside0.mk (hbox); have GWz1 := Aside0.mk (gX' hg (hX HB.out)); have GEz1 := Aside0.mk (gX' hg (hX HB.out)); replace HB := Aside0.mk (below_step (hX HB.out) hb); clear hb hbox hg; obtain ⟨iz1, hiz1, _, hszz1, _⟩ := info_parts info3; obtain ⟨hcutz1, hAz1, hCz1⟩ := print_take_of (P := Tryz.prog) (Value.int .i64) 0 28 3 .i64 Tryz.underlying28 hiz1 hszz1 A0 c0 l0 4 (by omega) (of_decide_eq_true (by first | (with_reducible assumption) | assumption)) HC0.out; have HRz1 := Aside0.mk (Kd.C_of_reads (h1 := fun _ => rfl) (hAz1 _ (Kd.reads_of_C HR0.out))); have HCz1 := Aside0.mk hCz1; clear hAz1 hCz1 hiz1 hszz1) | ((with_reducible refine gate_callee (f := 121) rfl ?_); refine goesL_ (some 9) rfl rfl Tryz.func121 (by kernel_rfl) rfl #[.slice A0 (l0.take 4).length c0] rfl (by (try simp only [List.map_toArray, List.map_cons, List.map_nil]); first | done | (rw [show (l0.take 4).length = 4 from (by rw [List.length_take]; have h_ : (4 : Int) ≤ (l0.length : Int) := of_decide_eq_true (by first | (with_reducible assumption) | assumption); omega)] <;> rfl) | rfl | (simp only [List.length_drop, List.length_take]; rfl)) ?_; (with_reducible refine (slices_Clone_int_int.calls _ _ (l0.take 4) t103 _ ?side1 ?side2 A4.out).mono ?_); (case side1 => repeat (first | exact (Kd.C_below HRz1.out HB.out) | (with_reducible refine Kd.C_alloc ?_ _) | (with_reducible refine Kd.C_drewN ?_ _) | (with_reducible refine Kd.C_drew ?_))); (case side2 => exact HCz1.out); rintro e wz2 ⟨vz1, rfl, hoz1, hb⟩; refine ⟨_, rfl, ?_⟩; have HOz1 := Aside0.mk (Kd.R_lower hoz1 (below_size (hX HB.out))); replace BKz1 := Aside0.mk (blk_below (bX BKz1.out) hb); replace HB := Aside0.mk (below_step (hX HB.out) hb); clear hb hoz1) | (refine goesM 122 11 Tryz.func122 #[] ?_; refine (impl_StateAt.calls  t106 _ A5.out).mono ?_; rintro e w' ⟨rfl, ⟨nd, rfl⟩⟩; refine ⟨_, rfl, ?_⟩; (try (rw [drewN_self wz2]; generalize hq_ : World.drewN wz2 _ = wz2; have nz1 : Aside0 (Kd.R (Kd.int .i64) 3 wz2 w.heap.size (fun _ => True) vz1 t103) := ⟨by rw [← hq_]; exact (rX HOz1.out)⟩; have nz2 : Aside0 (wz2.heap[gbz1]? = some (.cells #[.slice none 0 0, .int .i64 0] 41 (0, 0))) := ⟨by rw [← hq_]; exact (bX BKz1.out)⟩; have nz3 : Aside0 (Below w.heap.size w wz2) := ⟨by rw [← hq_]; exact (hX HB.out)⟩; clear HOz1 BKz1 HB hq_; have HOz1 := nz1; have BKz1 := nz2; have HB := nz3; clear nz1 nz2 nz3)); have pz1 : 0 ≤ (t106 : Int) := of_decide_eq_true (by first | (with_reducible assumption) | assumption); have qz1 : t106 < (l0.length : Int) := of_decide_eq_true (by first | (with_reducible assumption) | assumption); obtain ⟨adz1, ez1, hxz1⟩ := Kd.at_int HR0.out t106 pz1 qz1; cases ez1; replace hxz1 := (HB.out.cell (World.block_lt_of_cell? w _ hxz1)).trans hxz1; replace pz1 := eq_true pz1; replace qz1 := eq_true qz1; obtain ⟨Aoz1, coz1, eoz1⟩ := Kd.R_slice HOz1.out; subst eoz1; obtain ⟨hczz1, hczz2, hfzz1, hfzz2⟩ := cZ2 BKz1.out))
    refine bodyPost_ret (results_cell_row rfl _ _ gbz1 41 #[.slice Aoz1 t103.length coz1, .int .i64 (rd l0 t106)] (0, 0) _ rfl (bP BKz1.out) Tryz.underlying41 rfl (by kernel_rfl)) rfl ?_
    exact ⟨_, rE, (rT (h := by exact Kd.R_mono (Kd.R_far (p := ⟨gbz1, 1, none⟩) (Kd.R_far (p := ⟨gbz1, 0, none⟩) (Kd.R_types HOz1.out BKz1.out (by decide)) (fun _ hk => hk.2) (.slice Aoz1 t103.length coz1)) (fun _ hk => hk.2) (.int .i64 (rd l0 t106))) (fun _ hk => trivial))), (hX HB.out)⟩
  · rw [if_neg c2] at H
    obtain ⟨c2b0, c2b1⟩ := eqF c2
    simp only [Option.some.injEq, Prod.mk.injEq] at H
    obtain ⟨rfl, rfl⟩ := H
    go_wp2_with (first | (refine boxE 2 #[.slice none 0 0, .int .i64 0] 41 ?_; intro gbz1 hg wz1 hbox hb; have BKz1 := Aside0.mk (hbox); have GWz1 := Aside0.mk (gX' hg (hX HB.out)); have GEz1 := Aside0.mk (gX' hg (hX HB.out)); replace HB := Aside0.mk (below_step (hX HB.out) hb); clear hb hbox hg; obtain ⟨hczz1, hczz2, hfzz1, hfzz2⟩ := cZ2 BKz1.out))
    refine bodyPost_ret (results_cell_row rfl _ _ gbz1 41 #[.slice none 0 0, .int .i64 0] (0, 0) _ rfl (bP BKz1.out) Tryz.underlying41 rfl (by kernel_rfl)) rfl ?_
    exact ⟨(Value.slice none 0 0), rE, (by first | exact Kd.R_nil _ _ _ _ _ | exact Kd.S_nil _ _ _ _ _ | exact Kd.V_nil _ _ _ _ _ | exact Kd.N_nil _ _ _ _ _ | exact Kd.Q_nil _ _ _ _ _), (hX HB.out)⟩
end Go.Proofs.YtmljebgideecjaaGreat.P
namespace Go.Proofs.YtmljebgideecjaaGreat.P
open Go.Proofs.YtmljebgideecjaaGreatZ Go.RowKit Go.Proofs.YtmljebgideecjaaGreatW.PrintWords Go.Proofs.YtmljebgideecjaaGreatW.PrintLast Go.Proofs.YtmljebgideecjaaGreatW.PrintMore
attribute [local go_sem] max2_int min2_int max_two min_two max_three min_three max_four min_four   -- for this text's walks alone
set_option linter.unusedVariables false
set_option linter.unusedSimpArgs false
def impl_from.f (a0 : Int) (a1 : Int) (a2 : Int) : Option (Bool) := if a0 ≥ a1 then (some (decide (a0 ≤ a2))) else (some false)
set_option maxHeartbeats 8000000 in
set_option maxRecDepth 100000 in
theorem impl_from.calls (a0 : Int) (a1 : Int) (a2 : Int) (r : Bool) (w : World) (h : impl_from.f a0 a1 a2 = some r) :
    Calls Tryz.prog 102 #[.int .i64 a0, .int .i64 a1, .int .i64 a2] w fun e w' => e = .returned (.bool r) ∧ Drawn0 w w' := by
  have H := h
  unfold impl_from.f at H
  clear h
  go_enter Tryz.func102, Tryz.ntmps102
  by_cases c4 : a0 ≥ a1
  · rw [if_pos c4] at H
    have c4b0 := decide_eq_true c4
    clear c4
    obtain rfl := Option.some.inj H
    go_wp2
    go_ret
    exact ⟨by first | rfl | (simp; done) | (simp [*]; done), dX⟩
  · rw [if_neg c4] at H
    have c4b0 := decide_eq_false c4
    clear c4
    obtain rfl := Option.some.inj H
    go_wp2
    go_ret
    exact ⟨by first | rfl | (simp; done) | (simp [*]; done), dX⟩
end Go.Proofs.YtmljebgideecjaaGreat.P
namespace Go.Proofs.YtmljebgideecjaaGreat.P
open Go.Proofs.YtmljebgideecjaaGreatZ Go.RowKit Go.Proofs.YtmljebgideecjaaGreatW.PrintWords Go.Proofs.YtmljebgideecjaaGreatW.PrintLast Go.Proofs.YtmljebgideecjaaGreatW.PrintMore
attribute [local go_sem] max2_int min2_int max_two min_two max_three min_three max_four min_four   -- for this text's walks alone
set_option linter.unusedVariables false
set_option linter.unusedSimpArgs false
def impl_Entries.l0 : Nat → Int → List (S165) → Int → Int → Option (Int × Int × Int × Bool)
  | 0, _, _, _, _ => none
  | k + 1, x1, x9, x10, x11 => if x11 < x10 then (if 0 ≤ x11 then (if x11 < (x9.length : Int) then (if ((rd_T165 x9 x11).f0) = x1 then (some ((rd_T165 x9 x11).f0, (rd_T165 x9 x11).f1, (rd_T165 x9 x11).f2, true)) else (impl_Entries.l0 k x1 x9 x10 (wrap64 (x11 + 1)))) else (none)) else (none)) else (some (0, 0, 0, false))
def impl_Entries.f (k : Nat) (a0_0 : Int) (a0_1 : Int) (l0_2 : List (S165)) (a0_3 : Int) (l0_4 : List Int) (a1 : Int) : Option (Int × Int × Int × Bool) := impl_Entries.l0 k a1 l0_2 (l0_2.length : Int) 0
set_option maxHeartbeats 8000000 in
set_option maxRecDepth 100000 in
theorem impl_Entries.calls (k : Nat) (a0_0 : Int) (a0_1 : Int) (A0_2 : Option Addr) (c0_2 : Nat) (l0_2 : List (S165)) (a0_3 : Int) (A0_4 : Option Addr) (c0_4 : Nat) (l0_4 : List Int) (a1 : Int) (r1 : Int) (r2 : Int) (r3 : Int) (r4 : Bool) (w : World) (hr0_2 : Kd.C k165 w A0_2 l0_2.length l0_2) (hc0_2 : l0_2.length ≤ c0_2) (hr0_4 : Kd.C (Kd.int .i64) w A0_4 l0_4.length l0_4) (hc0_4 : l0_4.length ≤ c0_4) (h : impl_Entries.f k a0_0 a0_1 l0_2 a0_3 l0_4 a1 = some (r1, r2, r3, r4)) :
    Calls Tryz.prog 173 #[.agg #[.int .i64 a0_0, .int .i64 a0_1, .slice A0_2 l0_2.length c0_2, .int .i64 a0_3, .slice A0_4 l0_4.length c0_4], .int .i64 a1] w fun e w' => e = .returned (.tuple #[.agg #[.int .i64 r1, .int .i64 r2, .int .i64 r3], .bool r4]) ∧ Below w.heap.size w w' := by
  have hu162 := Tryz.underlying162
  have hu165 := Tryz.underlying165
  have HR0_2 := Aside0.mk hr0_2
  have HC0_2 := Aside0.mk hc0_2
  clear hr0_2 hc0_2
  have HR0_4 := Aside0.mk hr0_4
  have HC0_4 := Aside0.mk hc0_4
  clear hr0_4 hc0_4
  have HB := Aside0.mk (Below.refl w.heap.size w)
  have H := h
  unfold impl_Entries.f at H
  clear h
  have H' := Aside0.mk H
  clear H
  go_enter Tryz.func173, Tryz.ntmps173
  go_wp2_with (first | (refine boxE 2 #[.int .i64 a0_0, .int .i64 a0_1, .slice A0_2 l0_2.length c0_2, .int .i64 a0_3, .slice A0_4 l0_4.length c0_4] 162 ?_; intro gbz1 hg wz1 hbox hb; have BKz1 := Aside0.mk (hbox); have GWz1 := Aside0.mk (gX' hg (hX HB.out)); have GEz1 := Aside0.mk (gX' hg (hX HB.out)); replace HB := Aside0.mk (below_step (hX HB.out) hb); clear hb hbox hg) | (refine boxE 4 #[.int .i64 0, .int .i64 0, .int .i64 0] 165 ?_; intro gbz2 hg wz2 hbox hb; have BKz2 := Aside0.mk (hbox); have GWz2 := Aside0.mk (gX' hg (hX HB.out)); have GEz2 := Aside0.mk (gX' hg (hX HB.out)); have NBz1 := Aside0.mk (gL hg (bX BKz1.out)); have NBz2 := Aside0.mk (gG hg (bX BKz1.out)); replace BKz1 := Aside0.mk (blk_below (bX BKz1.out) hb); replace HB := Aside0.mk (below_step (hX HB.out) hb); clear hb hbox hg; have hnbz1 := NBz1.out; have hncz1 := NBz2.out; obtain ⟨hczz1, hczz2, hczz3, hczz4, hczz5, hfzz1, hfzz2, hfzz3, hfzz4, hfzz5⟩ := cZ5 BKz1.out))
  go_loopg [11] k (fun kq v11 w' => ∃ (x11_1 : Int) (x103000_1 : Int) (x103001_1 : Int) (x103002_1 : Int), v11 = .int .i64 x11_1 ∧ Aside0 (impl_Entries.l0 kq a1 l0_2 (l0_2.length : Int) x11_1 = some (r1, r2, r3, r4)) ∧ Aside0 (kq ≤ k) ∧ Aside0 (w'.heap[gbz1]? = some (.cells #[.int .i64 a0_0, .int .i64 a0_1, (.slice A0_2 l0_2.length c0_2), .int .i64 a0_3, (.slice A0_4 l0_4.length c0_4)] 162 (0, 0))) ∧ Aside0 (w'.heap[gbz2]? = some (.cells #[.int .i64 x103000_1, .int .i64 x103001_1, .int .i64 x103002_1] 165 (0, 0))) ∧ Aside0 (Below w.heap.size w w'))
  case atStart => exact ⟨(0), (0), (0), (0), rS, H', ⟨Nat.le_refl _⟩, ⟨(bX BKz1.out)⟩, ⟨(bX BKz2.out)⟩, ⟨(hX HB.out)⟩⟩
  case round =>
    clear H'
    try clear c1
    try clear p2
    try clear c5
    try clear hczz1
    try clear hczz2
    try clear hczz3
    try clear hczz4
    try clear hczz5
    try clear hfzz1
    try clear hfzz2
    try clear hfzz3
    try clear hfzz4
    try clear hfzz5
    obtain ⟨x11_1, x103000_1, x103001_1, x103002_1, rfl, HA, HKy1, BKz1, BKz2, HB⟩ := hrel
    cases gk with
    | zero => exact absurd HA.out (by simp [impl_Entries.l0])
    | succ k1 =>
      have H := HA.out
      clear HA
      simp only [impl_Entries.l0] at H
      by_cases c7 : x11_1 < (l0_2.length : Int)
      · rw [if_pos c7] at H
        have c7b0 := decide_eq_true c7
        clear c7
        replace H := ifP H; obtain ⟨c8, H⟩ := H
        have c8b0 := decide_eq_true c8
        clear c8
        replace H := ifP H; obtain ⟨c9, H⟩ := H
        have c9b0 := decide_eq_true c9
        clear c9
        by_cases c10 : ((rd_T165 l0_2 x11_1).f0) = a1
        · rw [if_pos c10] at H
          obtain ⟨c10b0, c10b1⟩ := eqT c10
          clear c10
          simp only [Option.some.injEq, Prod.mk.injEq] at H
          obtain ⟨rfl, rfl, rfl, rfl⟩ := H
          have px1 : 0 ≤ (x11_1 : Int) := of_decide_eq_true (by first | (with_reducible assumption) | assumption)
          have qx1 : x11_1 < (l0_2.length : Int) := of_decide_eq_true (by first | (with_reducible assumption) | assumption)
          obtain ⟨adx1, ex1, hxx1, hxx2, hxx3⟩ := at_T165 HR0_2.out x11_1 px1 qx1
          cases ex1
          replace hxx1 := (HB.out.cell (World.block_lt_of_cell? w _ hxx1)).trans hxx1
          replace hxx2 := (HB.out.cell (World.block_lt_of_cell? w _ hxx2)).trans hxx2
          replace hxx3 := (HB.out.cell (World.block_lt_of_cell? w _ hxx3)).trans hxx3
          replace px1 := eq_true px1
          replace qx1 := eq_true qx1
          go_wp2_with (first | (refine boxE 7 #[.int .i64 0, .int .i64 0, .int .i64 0] 165 ?_; intro gbx1 hg wx1 hbox hb; have BKx1 := Aside0.mk (hbox); have GWx1 := Aside0.mk (gX' hg (hX HB.out)); have GEx1 := Aside0.mk (gX' hg (hX HB.out)); have NBx1 := Aside0.mk (gL hg (bX BKz1.out)); have NBx2 := Aside0.mk (gG hg (bX BKz1.out)); have NBx3 := Aside0.mk (gL hg (bX BKz2.out)); have NBx4 := Aside0.mk (gG hg (bX BKz2.out)); replace BKz1 := Aside0.mk (blk_below (bX BKz1.out) hb); replace BKz2 := Aside0.mk (blk_below (bX BKz2.out) hb); replace HB := Aside0.mk (below_step (hX HB.out) hb); clear hb hbox hg; have hnbx1 := NBx2.out; have hncx1 := NBx1.out; have hnbx2 := NBx4.out; have hncx2 := NBx3.out; obtain ⟨hczx1, hczx2, hczx3, hfzx1, hfzx2, hfzx3⟩ := cZ3 BKx1.out; have hnbx3 := NBz2.out; have hncx3 := NBz1.out; obtain ⟨hczx4, hczx5, hczx6, hfzx4, hfzx5, hfzx6⟩ := cZ3 BKz2.out))
          refine bodyPost_ret (results_ct rfl _ _ gbz2 165 #[.int .i64 ((rd_T165 l0_2 x11_1).f0), .int .i64 ((rd_T165 l0_2 x11_1).f1), .int .i64 ((rd_T165 l0_2 x11_1).f2)] (0, 0) _ rfl (bP BKz2.out) Tryz.underlying165 rfl (by kernel_rfl)) rfl ?_
          exact ⟨rE, (hX HB.out)⟩
        · rw [if_neg c10] at H
          obtain ⟨c10b0, c10b1⟩ := eqF c10
          have H' := Aside0.mk H
          clear H
          have px1 : 0 ≤ (x11_1 : Int) := of_decide_eq_true (by first | (with_reducible assumption) | assumption)
          have qx1 : x11_1 < (l0_2.length : Int) := of_decide_eq_true (by first | (with_reducible assumption) | assumption)
          obtain ⟨adx1, ex1, hxx1, hxx2, hxx3⟩ := at_T165 HR0_2.out x11_1 px1 qx1
          cases ex1
          replace hxx1 := (HB.out.cell (World.block_lt_of_cell? w _ hxx1)).trans hxx1
          replace hxx2 := (HB.out.cell (World.block_lt_of_cell? w _ hxx2)).trans hxx2
          replace hxx3 := (HB.out.cell (World.block_lt_of_cell? w _ hxx3)).trans hxx3
          replace px1 := eq_true px1
          replace qx1 := eq_true qx1
          go_wp2_with (first | (refine boxE 7 #[.int .i64 0, .int .i64 0, .int .i64 0] 165 ?_; intro gbx1 hg wx1 hbox hb; have BKx1 := Aside0.mk (hbox); have GWx1 := Aside0.mk (gX' hg (hX HB.out)); have GEx1 := Aside0.mk (gX' hg (hX HB.out)); have NBx1 := Aside0.mk (gL hg (bX BKz1.out)); have NBx2 := Aside0.mk (gG hg (bX BKz1.out)); have NBx3 := Aside0.mk (gL hg (bX BKz2.out)); have NBx4 := Aside0.mk (gG hg (bX BKz2.out)); replace BKz1 := Aside0.mk (blk_below (bX BKz1.out) hb); replace BKz2 := Aside0.mk (blk_below (bX BKz2.out) hb); replace HB := Aside0.mk (below_step (hX HB.out) hb); clear hb hbox hg; have hnbx1 := NBx2.out; have hncx1 := NBx1.out; have hnbx2 := NBx4.out; have hncx2 := NBx3.out; obtain ⟨hczx1, hczx2, hczx3, hfzx1, hfzx2, hfzx3⟩ := cZ3 BKx1.out))
          go_roundg k1
          case measure => have := HKy1.out; omega
          case rel => exact ⟨(wrap64 (x11_1 + 1)), (x103000_1), (x103001_1), (x103002_1), rS, H', ⟨by have := HKy1.out; omega⟩, ⟨(bF BKz1.out)⟩, ⟨(bF BKz2.out)⟩, ⟨(hX HB.out)⟩⟩
      · rw [if_neg c7] at H
        have c7b0 := decide_eq_false c7
        clear c7
        simp only [Option.some.injEq, Prod.mk.injEq] at H
        obtain ⟨rfl, rfl, rfl, rfl⟩ := H
        have hnbx1 := NBz2.out
        have hncx1 := NBz1.out
        obtain ⟨hczx1, hczx2, hczx3, hfzx1, hfzx2, hfzx3⟩ := cZ3 BKz2.out
        go_wp2
        refine bodyPost_ret (results_ct rfl _ _ gbz2 165 #[.int .i64 0, .int .i64 0, .int .i64 0] (0, 0) _ rfl (bP BKz2.out) Tryz.underlying165 rfl (by kernel_rfl)) rfl ?_
        exact ⟨rE, (hX HB.out)⟩
end Go.Proofs.YtmljebgideecjaaGreat.P
namespace Go.Proofs.YtmljebgideecjaaGreat.P
open Go.Proofs.YtmljebgideecjaaGreatZ Go.RowKit Go.Proofs.YtmljebgideecjaaGreatW.PrintWords Go.Proofs.YtmljebgideecjaaGreatW.PrintLast Go.Proofs.YtmljebgideecjaaGreatW.PrintMore
attribute [local go_sem] max2_int min2_int max_two min_two max_three min_three max_four min_four   -- for this text's walks alone
set_option linter.unusedVariables false
set_option linter.unusedSimpArgs false
def impl_ValueAt.f (k : Nat) (l0 : List (S140)) (l1 : List (S162)) (a2 : Int) : Option (Int) := (impl_from.f a2 0 (wrap64 ((l0.length : Int) - 1))).bind fun t101 => (if t101 = true then (if 0 ≤ a2 then (if a2 < (l0.length : Int) then (if ((rd_T140 l0 a2).f1) = 0 then (some ((rd_T140 l0 a2).f0)) else ((impl_from.f ((rd_T140 l0 a2).f1) 1 (l1.length : Int)).bind fun t104 => (if t104 = true then (if 0 ≤ (wrap64 (((rd_T140 l0 a2).f1) - 1)) then (if (wrap64 (((rd_T140 l0 a2).f1) - 1)) < (l1.length : Int) then ((impl_Entries.f k ((rd_T162 l1 (wrap64 (((rd_T140 l0 a2).f1) - 1))).f0) ((rd_T162 l1 (wrap64 (((rd_T140 l0 a2).f1) - 1))).f1) ((rd_T162 l1 (wrap64 (((rd_T140 l0 a2).f1) - 1))).f2) ((rd_T162 l1 (wrap64 (((rd_T140 l0 a2).f1) - 1))).f3.f0) ((rd_T162 l1 (wrap64 (((rd_T140 l0 a2).f1) - 1))).f3.f1) a2).bind fun bt107 => (if ((rd_T162 l1 (wrap64 (((rd_T140 l0 a2).f1) - 1))).f0) = ((rd_T140 l0 a2).f2) then (if ((rd_T162 l1 (wrap64 (((rd_T140 l0 a2).f1) - 1))).f1) = 2 then (some bt107.2.2.1) else (some bt107.2.1)) else (some bt107.2.1))) else (none)) else (none)) else (some 0)))) else (none)) else (none)) else (some 0))
set_option maxHeartbeats 8000000 in
set_option maxRecDepth 100000 in
theorem impl_ValueAt.calls (k : Nat) (A0 : Option Addr) (c0 : Nat) (l0 : List (S140)) (A1 : Option Addr) (c1 : Nat) (l1 : List (S162)) (a2 : Int) (r : Int) (w : World) (hr0 : Kd.C k140 w A0 l0.length l0) (hc0 : l0.length ≤ c0) (hr1 : Kd.C k162 w A1 l1.length l1) (hc1 : l1.length ≤ c1) (h : impl_ValueAt.f k l0 l1 a2 = some r) :
    Calls Tryz.prog 123 #[.slice A0 l0.length c0, .slice A1 l1.length c1, .int .i64 a2] w fun e w' => e = .returned (.int .i64 r) ∧ Below w.heap.size w w' := by
  have hu140 := Tryz.underlying140
  have hu162 := Tryz.underlying162
  have hu165 := Tryz.underlying165
  have HR0 := Aside0.mk hr0
  have HC0 := Aside0.mk hc0
  clear hr0 hc0
  have HR1 := Aside0.mk hr1
  have HC1 := Aside0.mk hc1
  clear hr1 hc1
  have HB := Aside0.mk (Below.refl w.heap.size w)
  have H := h
  unfold impl_ValueAt.f at H
  clear h
  replace H := bE H; obtain ⟨t101, A4, H⟩ := H
  go_enter Tryz.func123, Tryz.ntmps123
  by_cases c5 : t101 = true
  · subst c5
    rw [if_pos rfl] at H
    replace H := ifP H; obtain ⟨c6, H⟩ := H
    have c6b0 := decide_eq_true c6
    clear c6
    replace H := ifP H; obtain ⟨c7, H⟩ := H
    have c7b0 := decide_eq_true c7
    clear c7
    go_wp2_with (first | (refine goesM 102 15 Tryz.func102 #[.int .i64 a2, .int .i64 0, .int .i64 (wrap64 ((l0.length : Int) - 1))] ?_; refine (impl_from.calls a2 0 (wrap64 ((l0.length : Int) - 1)) true _ A4.out).mono ?_; rintro e w' ⟨rfl, ⟨nd, rfl⟩⟩; refine ⟨_, rfl, ?_⟩; have pz1 : 0 ≤ (a2 : Int) := of_decide_eq_true (by first | (with_reducible assumption) | assumption); have qz1 : a2 < (l0.length : Int) := of_decide_eq_true (by first | (with_reducible assumption) | assumption); obtain ⟨adz1, ez1, hxz1, hxz2, hxz3⟩ := at_T140 HR0.out a2 pz1 qz1; cases ez1; replace pz1 := eq_true pz1; replace qz1 := eq_true qz1) | (refine boxE 7 #[.int .i64 0, .int .i64 0, .int .i64 0] 140 ?_; intro gbz1 hg wz1 hbox hb; have BKz1 := Aside0.mk (hbox); have GWz1 := Aside0.mk (gX' hg (hX HB.out)); have GEz1 := Aside0.mk (gX' hg (hX HB.out)); replace HB := Aside0.mk (below_step (hX HB.out) hb); clear hb hbox hg; obtain ⟨hczz1, hczz2, hczz3, hfzz1, hfzz2, hfzz3⟩ := cZ3 BKz1.out; refine Stop.out ?_))
    refine ⟨?_⟩
    by_cases c8 : ((rd_T140 l0 a2).f1) = 0
    · rw [if_pos c8] at H
      obtain ⟨c8b0, c8b1⟩ := eqT c8
      clear c8
      obtain rfl := Option.some.inj H
      go_wp2
      go_ret
      exact ⟨rE, (hX HB.out)⟩
    · rw [if_neg c8] at H
      obtain ⟨c8b0, c8b1⟩ := eqF c8
      replace H := bE H; obtain ⟨t104, A11, H⟩ := H
      by_cases c12 : t104 = true
      · subst c12
        rw [if_pos rfl] at H
        obtain ⟨ji13, hji13⟩ : ∃ j_ : Int, (wrap64 (((rd_T140 l0 a2).f1) - 1)) = j_ := ⟨_, rfl⟩
        replace H : (if 0 ≤ (ji13) then (if (ji13) < (l1.length : Int) then ((impl_Entries.f k ((rd_T162 l1 (ji13)).f0) ((rd_T162 l1 (ji13)).f1) ((rd_T162 l1 (ji13)).f2) ((rd_T162 l1 (ji13)).f3.f0) ((rd_T162 l1 (ji13)).f3.f1) a2).bind fun bt107 => (if ((rd_T162 l1 (ji13)).f0) = ((rd_T140 l0 a2).f2) then (if ((rd_T162 l1 (ji13)).f1) = 2 then (some bt107.2.2.1) else (some bt107.2.1)) else (some bt107.2.1))) else (none)) else (none)) = some r := by first | (rw [hji13] at H; exact H) | (simp only [hji13] at H ⊢; exact H)
        (try rw [hji13] at A4)
        (try rw [hji13] at A11)
        have hji13w : (IntKind.i64.wrap (((rd_T140 l0 a2).f1) - 1)) = ji13 := (i64_w _).trans hji13
        replace H := ifP H; obtain ⟨c14, H⟩ := H
        have c14b0 := decide_eq_true c14
        clear c14
        replace H := ifP H; obtain ⟨c15, H⟩ := H
        have c15b0 := decide_eq_true c15
        clear c15
        replace H := bE H; obtain ⟨⟨t107, t108, t109, t110⟩, A16, H⟩ := H
        try dsimp only at H
        go_wp2_with (first | (refine goesM 102 30 Tryz.func102 #[.int .i64 ((rd_T140 l0 a2).f1), .int .i64 1, .int .i64 (l1.length : Int)] ?_; refine (impl_from.calls ((rd_T140 l0 a2).f1) 1 (l1.length : Int) true _ A11.out).mono ?_; rintro e w' ⟨rfl, ⟨nd, rfl⟩⟩; refine ⟨_, rfl, ?_⟩; have pz2 : 0 ≤ ((ji13) : Int) := of_decide_eq_true (by first | (with_reducible assumption) | assumption); have qz2 : (ji13) < (l1.length : Int) := of_decide_eq_true (by first | (with_reducible assumption) | assumption); obtain ⟨adz2, Az1, cz1, Az2, cz2, ez2, hxz4, hxz5, hxz6, hxz7, hxz8, hlz1, hiz1, hlz2, hiz2⟩ := at_T162 HR1.out (ji13) pz2 qz2; cases ez2; have hnz1 : adz2.block ≠ gbz1 := Nat.ne_of_lt (Nat.lt_of_lt_of_le (by have := World.block_lt_of_cell? _ _ hxz4; first | rwa [add_block] at this | exact this) GWz1.out); have hnz2 : adz2.block ≠ gbz1 := Nat.ne_of_lt (Nat.lt_of_lt_of_le (by have := World.block_lt_of_cell? _ _ hxz4; first | rwa [add_block] at this | exact this) GWz1.out); have hnz3 : adz2.block ≠ gbz1 := Nat.ne_of_lt (Nat.lt_of_lt_of_le (by have := World.block_lt_of_cell? _ _ hxz4; first | rwa [add_block] at this | exact this) GWz1.out); replace hxz4 := (HB.out.cell (World.block_lt_of_cell? w _ hxz4)).trans hxz4; replace hxz5 := (HB.out.cell (World.block_lt_of_cell? w _ hxz5)).trans hxz5; replace hxz6 := (HB.out.cell (World.block_lt_of_cell? w _ hxz6)).trans hxz6; replace hxz7 := (HB.out.cell (World.block_lt_of_cell? w _ hxz7)).trans hxz7; replace hxz8 := (HB.out.cell (World.block_lt_of_cell? w _ hxz8)).trans hxz8; have HRz1 := Aside0.mk hiz1; have HCz1 := Aside0.mk hlz1; clear hiz1 hlz1; have HRz2 := Aside0.mk hiz2; have HCz2 := Aside0.mk hlz2; clear hiz2 hlz2; replace hxz4 := (cell_far (p := ⟨gbz1, 0, none⟩) (by first | (rw [add_block]; exact hnz1) | (show (Addr.add _ _).block ≠ _; rw [add_block]; exact hnz1) | exact hnz1) (.int .i64 ((rd_T140 l0 a2).f0))).trans hxz4; replace hxz5 := (cell_far (p := ⟨gbz1, 0, none⟩) (by first | (rw [add_block]; exact hnz1) | (show (Addr.add _ _).block ≠ _; rw [add_block]; exact hnz1) | exact hnz1) (.int .i64 ((rd_T140 l0 a2).f0))).trans hxz5; replace hxz6 := (cell_far (p := ⟨gbz1, 0, none⟩) (by first | (rw [add_block]; exact hnz1) | (show (Addr.add _ _).block ≠ _; rw [add_block]; exact hnz1) | exact hnz1) (.int .i64 ((rd_T140 l0 a2).f0))).trans hxz6; replace hxz7 := (cell_far (p := ⟨gbz1, 0, none⟩) (by first | (rw [add_block]; exact hnz1) | (show (Addr.add _ _).block ≠ _; rw [add_block]; exact hnz1) | exact hnz1) (.int .i64 ((rd_T140 l0 a2).f0))).trans hxz7; replace hxz8 := (cell_far (p := ⟨gbz1, 0, none⟩) (by first | (rw [add_block]; exact hnz1) | (show (Addr.add _ _).block ≠ _; rw [add_block]; exact hnz1) | exact hnz1) (.int .i64 ((rd_T140 l0 a2).f0))).trans hxz8; replace hxz4 := (cell_far (p := ⟨gbz1, 1, none⟩) (by first | (rw [add_block]; exact hnz2) | (show (Addr.add _ _).block ≠ _; rw [add_block]; exact hnz2) | exact hnz2) (.int .i64 ((rd_T140 l0 a2).f1))).trans hxz4; replace hxz5 := (cell_far (p := ⟨gbz1, 1, none⟩) (by first | (rw [add_block]; exact hnz2) | (show (Addr.add _ _).block ≠ _; rw [add_block]; exact hnz2) | exact hnz2) (.int .i64 ((rd_T140 l0 a2).f1))).trans hxz5; replace hxz6 := (cell_far (p := ⟨gbz1, 1, none⟩) (by first | (rw [add_block]; exact hnz2) | (show (Addr.add _ _).block ≠ _; rw [add_block]; exact hnz2) | exact hnz2) (.int .i64 ((rd_T140 l0 a2).f1))).trans hxz6; replace hxz7 := (cell_far (p := ⟨gbz1, 1, none⟩) (by first | (rw [add_block]; exact hnz2) | (show (Addr.add _ _).block ≠ _; rw [add_block]; exact hnz2) | exact hnz2) (.int .i64 ((rd_T140 l0 a2).f1))).trans hxz7; replace hxz8 := (cell_far (p := ⟨gbz1, 1, none⟩) (by first | (rw [add_block]; exact hnz2) | (show (Addr.add _ _).block ≠ _; rw [add_block]; exact hnz2) | exact hnz2) (.int .i64 ((rd_T140 l0 a2).f1))).trans hxz8; replace hxz4 := (cell_far (p := ⟨gbz1, 2, none⟩) (by first | (rw [add_block]; exact hnz3) | (show (Addr.add _ _).block ≠ _; rw [add_block]; exact hnz3) | exact hnz3) (.int .i64 ((rd_T140 l0 a2).f2))).trans hxz4; replace hxz5 := (cell_far (p := ⟨gbz1, 2, none⟩) (by first | (rw [add_block]; exact hnz3) | (show (Addr.add _ _).block ≠ _; rw [add_block]; exact hnz3) | exact hnz3) (.int .i64 ((rd_T140 l0 a2).f2))).trans hxz5; replace hxz6 := (cell_far (p := ⟨gbz1, 2, none⟩) (by first | (rw [add_block]; exact hnz3) | (show (Addr.add _ _).block ≠ _; rw [add_block]; exact hnz3) | exact hnz3) (.int .i64 ((rd_T140 l0 a2).f2))).trans hxz6; replace hxz7 := (cell_far (p := ⟨gbz1, 2, none⟩) (by first | (rw [add_block]; exact hnz3) | (show (Addr.add _ _).block ≠ _; rw [add_block]; exact hnz3) | exact hnz3) (.int .i64 ((rd_T140 l0 a2).f2))).trans hxz7; replace hxz8 := (cell_far (p := ⟨gbz1, 2, none⟩) (by first | (rw [add_block]; exact hnz3) | (show (Addr.add _ _).block ≠ _; rw [add_block]; exact hnz3) | exact hnz3) (.int .i64 ((rd_T140 l0 a2).f2))).trans hxz8; clear hnz1; clear hnz2; clear hnz3; replace pz2 := eq_true pz2; replace qz2 := eq_true qz2) | (refine boxE 8 #[.int .i64 0, .int .i64 0, .slice none 0 0, .int .i64 0, .slice none 0 0] 162 ?_; intro gbz2 hg wz2 hbox hb; have BKz2 := Aside0.mk (hbox); have GWz2 := Aside0.mk (gX' hg (hX HB.out)); have GEz2 := Aside0.mk (gX' hg (hX HB.out)); have NBz1 := Aside0.mk (gL hg (bP BKz1.out)); have NBz2 := Aside0.mk (gG hg (bP BKz1.out)); replace BKz1 := Aside0.mk (blk_below (g := gbz1) (o := .cells #[.int .i64 ((rd_T140 l0 a2).f0), .int .i64 ((rd_T140 l0 a2).f1), .int .i64 ((rd_T140 l0 a2).f2)] 140 (0, 0)) (bP BKz1.out) hb); replace HB := Aside0.mk (below_step (hX HB.out) hb); clear hb hbox hg; have hnbz1 := NBz2.out; have hncz1 := NBz1.out; obtain ⟨hczz4, hczz5, hczz6, hczz7, hczz8, hfzz4, hfzz5, hfzz6, hfzz7, hfzz8⟩ := cZ5 BKz2.out) | ((with_reducible refine gate_callee (f := 173) rfl ?_); refine goesL_ (some 41) rfl rfl Tryz.func173 (by kernel_rfl) rfl #[.agg #[.int .i64 ((rd_T162 l1 (ji13)).f0), .int .i64 ((rd_T162 l1 (ji13)).f1), .slice Az1 ((rd_T162 l1 (ji13)).f2).length cz1, .int .i64 ((rd_T162 l1 (ji13)).f3.f0), .slice Az2 ((rd_T162 l1 (ji13)).f3.f1).length cz2], .int .i64 a2] rfl (by (try simp only [List.map_toArray, List.map_cons, List.map_nil]); first | done | (simp only [hji13]; rfl) | rfl | (simp only [List.length_drop, List.length_take]; rfl)) ?_; (with_reducible refine (impl_Entries.calls k ((rd_T162 l1 (ji13)).f0) ((rd_T162 l1 (ji13)).f1) _ _ ((rd_T162 l1 (ji13)).f2) ((rd_T162 l1 (ji13)).f3.f0) _ _ ((rd_T162 l1 (ji13)).f3.f1) a2 t107 t108 t109 t110 _ ?side1 ?side2 ?side3 ?side4 A16.out).mono ?_); (case side1 => exact Kd.C_below HRz1.out (hX HB.out)); (case side2 => exact HCz1.out); (case side3 => exact Kd.C_below HRz2.out (hX HB.out)); (case side4 => exact HCz2.out); rintro e wz3 ⟨rfl, hb⟩; refine ⟨_, rfl, ?_⟩; replace BKz1 := Aside0.mk (blk_below (bF BKz1.out) hb); replace BKz2 := Aside0.mk (blk_below (g := gbz2) (o := .cells #[.int .i64 ((rd_T162 l1 (ji13)).f0), .int .i64 ((rd_T162 l1 (ji13)).f1), .slice Az1 ((rd_T162 l1 (ji13)).f2).length cz1, .int .i64 ((rd_T162 l1 (ji13)).f3.f0), .slice Az2 ((rd_T162 l1 (ji13)).f3.f1).length cz2] 162 (0, 0)) (bP BKz2.out) hb); replace HB := Aside0.mk (below_step (hX HB.out) hb); clear hb) | (refine boxE 9 #[.int .i64 0, .int .i64 0, .int .i64 0] 165 ?_; intro gbz3 hg wz4 hbox hb; have BKz3 := Aside0.mk (hbox); have GWz3 := Aside0.mk (gX' hg (hX HB.out)); have GEz3 := Aside0.mk (gX' hg (hX HB.out)); have NBz3 := Aside0.mk (gL hg (bX BKz1.out)); have NBz4 := Aside0.mk (gG hg (bX BKz1.out)); have NBz5 := Aside0.mk ((by rw [hg]; exact Nat.ne_of_lt (blk_lt (g := gbz2) (o := .cells #[.int .i64 ((rd_T162 l1 (ji13)).f0), .int .i64 ((rd_T162 l1 (ji13)).f1), .slice Az1 ((rd_T162 l1 (ji13)).f2).length cz1, .int .i64 ((rd_T162 l1 (ji13)).f3.f0), .slice Az2 ((rd_T162 l1 (ji13)).f3.f1).length cz2] 162 (0, 0)) (bX BKz2.out)) : gbz2 ≠ gbz3)); have NBz6 := Aside0.mk ((by rw [hg]; exact Nat.ne_of_gt (blk_lt (g := gbz2) (o := .cells #[.int .i64 ((rd_T162 l1 (ji13)).f0), .int .i64 ((rd_T162 l1 (ji13)).f1), .slice Az1 ((rd_T162 l1 (ji13)).f2).length cz1, .int .i64 ((rd_T162 l1 (ji13)).f3.f0), .slice Az2 ((rd_T162 l1 (ji13)).f3.f1).length cz2] 162 (0, 0)) (bX BKz2.out)) : gbz3 ≠ gbz2)); replace BKz1 := Aside0.mk (blk_below (bX BKz1.out) hb); replace BKz2 := Aside0.mk (blk_below (g := gbz2) (o := .cells #[.int .i64 ((rd_T162 l1 (ji13)).f0), .int .i64 ((rd_T162 l1 (ji13)).f1), .slice Az1 ((rd_T162 l1 (ji13)).f2).length cz1, .int .i64 ((rd_T162 l1 (ji13)).f3.f0), .slice Az2 ((rd_T162 l1 (ji13)).f3.f1).length cz2] 162 (0, 0)) (bX BKz2.out) hb); replace HB := Aside0.mk (below_step (hX HB.out) hb); clear hb hbox hg; have hnbz2 := NBz4.out; have hncz2 := NBz3.out; have hnbz3 := NBz6.out; have hncz3 := NBz5.out; obtain ⟨hczz9, hczz10, hczz11, hfzz9, hfzz10, hfzz11⟩ := cZ3 BKz3.out; obtain ⟨hczz12, hczz13, hczz14, hczz15, hczz16, hfzz12, hfzz13, hfzz14, hfzz15, hfzz16⟩ := cZ5 BKz2.out; obtain ⟨hczz17, hczz18, hczz19, hfzz17, hfzz18, hfzz19⟩ := cZ3 BKz1.out; refine Stop.out ?_))
        refine ⟨?_⟩
        by_cases c17 : ((rd_T162 l1 (ji13)).f0) = ((rd_T140 l0 a2).f2)
        · rw [if_pos c17] at H
          obtain ⟨c17b0, c17b1⟩ := eqT c17
          clear c17
          by_cases c18 : ((rd_T162 l1 (ji13)).f1) = 2
          · rw [if_pos c18] at H
            obtain ⟨c18b0, c18b1⟩ := eqT c18
            clear c18
            obtain rfl := Option.some.inj H
            go_wp2
            go_ret
            exact ⟨by first | rfl | (simp [errW_none, errW_some] <;> rfl) | (simp only [← hji13]; first | rfl | (simp [errW_none, errW_some] <;> rfl)) | (simp [*, errW_none, errW_some] <;> rfl), (hX HB.out)⟩
          · rw [if_neg c18] at H
            obtain ⟨c18b0, c18b1⟩ := eqF c18
            obtain rfl := Option.some.inj H
            go_wp2
            go_ret
            exact ⟨by first | rfl | (simp [errW_none, errW_some] <;> rfl) | (simp only [← hji13]; first | rfl | (simp [errW_none, errW_some] <;> rfl)) | (simp [*, errW_none, errW_some] <;> rfl), (hX HB.out)⟩
        · rw [if_neg c17] at H
          obtain ⟨c17b0, c17b1⟩ := eqF c17
          obtain rfl := Option.some.inj H
          go_wp2
          go_ret
          exact ⟨by first | rfl | (simp [errW_none, errW_some] <;> rfl) | (simp only [← hji13]; first | rfl | (simp [errW_none, errW_some] <;> rfl)) | (simp [*, errW_none, errW_some] <;> rfl), (hX HB.out)⟩
      · replace c12 := Bool.eq_false_iff.mpr c12
        subst c12
        rw [if_neg nft] at H
        obtain rfl := Option.some.inj H
        go_wp2_with (first | (refine goesM 102 30 Tryz.func102 #[.int .i64 ((rd_T140 l0 a2).f1), .int .i64 1, .int .i64 (l1.length : Int)] ?_; refine (impl_from.calls ((rd_T140 l0 a2).f1) 1 (l1.length : Int) false _ A11.out).mono ?_; rintro e w' ⟨rfl, ⟨nd, rfl⟩⟩; refine ⟨_, rfl, ?_⟩))
        go_ret
        exact ⟨rE, (hX HB.out)⟩
  · replace c5 := Bool.eq_false_iff.mpr c5
    subst c5
    rw [if_neg nft] at H
    obtain rfl := Option.some.inj H
    go_wp2_with (first | (refine goesM 102 15 Tryz.func102 #[.int .i64 a2, .int .i64 0, .int .i64 (wrap64 ((l0.length : Int) - 1))] ?_; refine (impl_from.calls a2 0 (wrap64 ((l0.length : Int) - 1)) false _ A4.out).mono ?_; rintro e w' ⟨rfl, ⟨nd, rfl⟩⟩; refine ⟨_, rfl, ?_⟩))
    go_ret
    exact ⟨rE, (hX HB.out)⟩
end Go.Proofs.YtmljebgideecjaaGreat.P
namespace Go.Proofs.YtmljebgideecjaaGreat.P
open Go.Proofs.YtmljebgideecjaaGreatZ Go.RowKit Go.Proofs.YtmljebgideecjaaGreatW.PrintWords Go.Proofs.YtmljebgideecjaaGreatW.PrintLast Go.Proofs.YtmljebgideecjaaGreatW.PrintMore
attribute [local go_sem] max2_int min2_int max_two min_two max_three min_three max_four min_four   -- for this text's walks alone
set_option linter.unusedVariables false
set_option linter.unusedSimpArgs false
def impl_Meaning.l0 : Nat → List (S140) → List (S162) → List Int → Int → Int → Option (List Int)
  | 0, _, _, _, _, _ => none
  | k + 1, x0, x1, x5, x9, x10 => if x10 < x9 then ((impl_ValueAt.f k x0 x1 x10).bind fun t104 => (if x5.length < 17592186044416 then (impl_Meaning.l0 k x0 x1 (x5 ++ [t104]) x9 (wrap64 (x10 + 1))) else (none))) else (some x5)
def impl_Meaning.f (k : Nat) (l0 : List (S140)) (l1 : List (S162)) : Option (List Int) := impl_Meaning.l0 k l0 l1 (([] : List Int)) (l0.length : Int) 0
set_option maxHeartbeats 8000000 in
set_option maxRecDepth 100000 in
theorem impl_Meaning.calls (k : Nat) (A0 : Option Addr) (c0 : Nat) (l0 : List (S140)) (A1 : Option Addr) (c1 : Nat) (l1 : List (S162)) (r : List Int) (w : World) (hr0 : Kd.C k140 w A0 l0.length l0) (hc0 : l0.length ≤ c0) (hr1 : Kd.C k162 w A1 l1.length l1) (hc1 : l1.length ≤ c1) (h : impl_Meaning.f k l0 l1 = some r) :
    Calls Tryz.prog 60 #[.slice A0 l0.length c0, .slice A1 l1.length c1] w fun e w' => ∃ v0_ : Value, e = .returned (v0_) ∧ Kd.R (Kd.int .i64) 3 w' w.heap.size (fun _ => True) v0_ r ∧ Below w.heap.size w w' := by
  have HR0 := Aside0.mk hr0
  have HC0 := Aside0.mk hc0
  clear hr0 hc0
  have HR1 := Aside0.mk hr1
  have HC1 := Aside0.mk hc1
  clear hr1 hc1
  have HB := Aside0.mk (Below.refl w.heap.size w)
  have H := h
  unfold impl_Meaning.f at H
  clear h
  obtain ⟨y101, hy101⟩ : ∃ y_ : List Int, y_ = (([] : List Int)) := ⟨_, rfl⟩
  replace H : (impl_Meaning.l0 k l0 l1 y101 (l0.length : Int) 0) = some r := yH H hy101
  have Ny101 := Aside0.mk hy101
  clear hy101
  have H' := Aside0.mk H
  clear H
  go_enter Tryz.func60, Tryz.ntmps60
  go_wp2_with (first | ((with_reducible refine gate_dst (N := 7) rfl ?_); refine Kd.R_lit (Kd.int .i64) _ 3 ?hg (N := 7) ?hd (xs := ([] : List Int)) (inner := []) (ok := fun _ => True) (okp := fun _ => True) ?hr ?hp (fun _ hk => hk) trivial (Below.refl _ _) (Nat.le_refl _) (by simp) ?_; (case hd => rfl); (case hg => rfl); (case hr => first | (go_simp; done) | (go_simp; rfl)); (case hp => exact (Reps.none _ _)); intro vz1 wz1 hoz1 hb hg_ hnew_; clear hg_ hnew_; (first | rw [← Ny101.out] at hoz1 | (simp only [Int.reduceToNat] at hoz1; rw [← Ny101.out] at hoz1)); have HOz1 := Aside0.mk (Kd.R_lower hoz1 (below_size (hX HB.out))); replace HB := Aside0.mk (below_step (hX HB.out) hb); clear hb hoz1))
  go_loopg [5, 10] k (fun kq v5 v10 w' => ∃ (x5_1 : List Int) (x10_1 : Int), v10 = .int .i64 x10_1 ∧ Aside0 (impl_Meaning.l0 kq l0 l1 x5_1 (l0.length : Int) x10_1 = some r) ∧ Aside0 (kq ≤ k) ∧ Aside0 (Kd.R (Kd.int .i64) 3 w' w.heap.size (fun _ => True) v5 x5_1) ∧ Aside0 (Below w.heap.size w w'))
  case atStart => exact ⟨(y101), (0), rS, H', ⟨Nat.le_refl _⟩, ⟨(rX HOz1.out)⟩, ⟨(hX HB.out)⟩⟩
  case round =>
    clear H'
    try clear c1
    try clear p2
    obtain ⟨x5_1, x10_1, rfl, HA, HKy1, HO_y1, HB⟩ := hrel
    cases gk with
    | zero => exact absurd HA.out (by simp [impl_Meaning.l0])
    | succ k1 =>
      have H := HA.out
      clear HA
      simp only [impl_Meaning.l0] at H
      by_cases c5 : x10_1 < (l0.length : Int)
      · rw [if_pos c5] at H
        have c5b0 := decide_eq_true c5
        clear c5
        replace H := bE H; obtain ⟨t104, A6, H⟩ := H
        replace H := ifP H; obtain ⟨c7, H⟩ := H
        have LMc7 := Aside0.mk c7
        clear c7
        obtain ⟨y105, hy105⟩ : ∃ y_ : List Int, y_ = (x5_1 ++ [t104]) := ⟨_, rfl⟩
        replace H : (impl_Meaning.l0 k1 l0 l1 y105 (l0.length : Int) (wrap64 (x10_1 + 1))) = some r := yH H hy105
        have Ny105 := Aside0.mk hy105
        clear hy105
        have H' := Aside0.mk H
        clear H
        go_wp2_with (first | (refine goesM 123 17 Tryz.func123 #[.slice A0 l0.length c0, .slice A1 l1.length c1, .int .i64 x10_1] ?_; refine (impl_ValueAt.calls k1 _ _ l0 _ _ l1 x10_1 t104 _ (cC HR0.out HB.out) HC0.out (cC HR1.out HB.out) HC1.out A6.out).mono ?_; rintro e wx1 ⟨rfl, hb⟩; refine ⟨_, rfl, ?_⟩; replace HO_y1 := Aside0.mk (Kd.R_below (rX HO_y1.out) hb); replace HB := Aside0.mk (below_step (hX HB.out) hb); clear hb) | ((with_reducible refine gate_builtin (b := .append) (xs := #[.tmp 13, .tmp 18]) rfl ?_); at_builtin; refine Kd.R_append (Kd.int .i64) (w0 := w) w.heap.size rfl (.tmp 13) (.tmp 18) 28 3 (.int .i64 0) 8 rfl Tryz.underlying28 info3 rfl (by decide) (by omega) u5 x5_1 t104 [.int .i64 t104] (fun _ => True) (fun _ => False) rfl rfl ?aP (fun _ hk => hk.elim) ?aF ?aO ?aB ?aS ?aL ?_; (case aP => exact rfl); (case aB => exact (hX HB.out)); (case aF => exact (fun _ _ => trivial)); (case aO => exact (rX HO_y1.out)); (case aS => exact (below_size (hX HB.out))); (case aL => have := LMc7.out; omega); intro vx1 wx2 ho hb hg hat; rw [← Ny105.out] at ho; have HOx1 := Aside0.mk (ho); replace HB := Aside0.mk (hb); clear HO_y1; clear ho hb hg hat))
        go_roundg k1
        case measure => have := HKy1.out; omega
        case rel => exact ⟨(y105), (wrap64 (x10_1 + 1)), rS, H', ⟨by have := HKy1.out; omega⟩, ⟨(rX HOx1.out)⟩, ⟨(hX HB.out)⟩⟩
      · rw [if_neg c5] at H
        have c5b0 := decide_eq_false c5
        clear c5
        obtain rfl := Option.some.inj H
        go_wp2
        go_ret
        exact ⟨_, rE, (rX HO_y1.out), (hX HB.out)⟩
end Go.Proofs.YtmljebgideecjaaGreat.P
namespace Go.Proofs.YtmljebgideecjaaGreat.P
open Go.Proofs.YtmljebgideecjaaGreatZ Go.RowKit Go.Proofs.YtmljebgideecjaaGreatW.PrintWords Go.Proofs.YtmljebgideecjaaGreatW.PrintLast Go.Proofs.YtmljebgideecjaaGreatW.PrintMore
attribute [local go_sem] max2_int min2_int max_two min_two max_three min_three max_four min_four   -- for this text's walks alone
set_option linter.unusedVariables false
set_option linter.unusedSimpArgs false
def impl_ValOk.f (a0 : Int) : Option (Bool) := (impl_from.f a0 1 6).bind fun t101 => (some t101)
set_option maxHeartbeats 8000000 in
set_option maxRecDepth 100000 in
theorem impl_ValOk.calls (a0 : Int) (r : Bool) (w : World) (h : impl_ValOk.f a0 = some r) :
    Calls Tryz.prog 174 #[.int .i64 a0] w fun e w' => e = .returned (.bool r) ∧ Drawn0 w w' := by
  have H := h
  unfold impl_ValOk.f at H
  clear h
  replace H := bE H; obtain ⟨t101, A2, H⟩ := H
  obtain rfl := Option.some.inj H
  go_enter Tryz.func174, Tryz.ntmps174
  go_wp2_with (first | (refine goesM 102 4 Tryz.func102 #[.int .i64 a0, .int .i64 1, .int .i64 6] ?_; refine (impl_from.calls a0 1 6 t101 _ A2.out).mono ?_; rintro e w' ⟨rfl, ⟨nd, rfl⟩⟩; refine ⟨_, rfl, ?_⟩))
  go_ret
  exact ⟨by first | rfl | (simp; done) | (simp [*]; done), dX⟩
end Go.Proofs.YtmljebgideecjaaGreat.P
namespace Go.Proofs.YtmljebgideecjaaGreat.P
open Go.Proofs.YtmljebgideecjaaGreatZ Go.RowKit Go.Proofs.YtmljebgideecjaaGreatW.PrintWords Go.Proofs.YtmljebgideecjaaGreatW.PrintLast Go.Proofs.YtmljebgideecjaaGreatW.PrintMore
attribute [local go_sem] max2_int min2_int max_two min_two max_three min_three max_four min_four   -- for this text's walks alone
set_option linter.unusedVariables false
set_option linter.unusedSimpArgs false
def impl_KeyOk.f (a0 : Int) : Option (Bool) := (impl_from.f a0 0 3).bind fun t101 => (some t101)
set_option maxHeartbeats 8000000 in
set_option maxRecDepth 100000 in
theorem impl_KeyOk.calls (a0 : Int) (r : Bool) (w : World) (h : impl_KeyOk.f a0 = some r) :
    Calls Tryz.prog 176 #[.int .i64 a0] w fun e w' => e = .returned (.bool r) ∧ Drawn0 w w' := by
  have H := h
  unfold impl_KeyOk.f at H
  clear h
  replace H := bE H; obtain ⟨t101, A2, H⟩ := H
  obtain rfl := Option.some.inj H
  go_enter Tryz.func176, Tryz.ntmps176
  go_wp2_with (first | (refine goesM 102 4 Tryz.func102 #[.int .i64 a0, .int .i64 0, .int .i64 3] ?_; refine (impl_from.calls a0 0 3 t101 _ A2.out).mono ?_; rintro e w' ⟨rfl, ⟨nd, rfl⟩⟩; refine ⟨_, rfl, ?_⟩))
  go_ret
  exact ⟨by first | rfl | (simp; done) | (simp [*]; done), dX⟩
end Go.Proofs.YtmljebgideecjaaGreat.P
namespace Go.Proofs.YtmljebgideecjaaGreat.P
open Go.Proofs.YtmljebgideecjaaGreatZ Go.RowKit Go.Proofs.YtmljebgideecjaaGreatW.PrintWords Go.Proofs.YtmljebgideecjaaGreatW.PrintLast Go.Proofs.YtmljebgideecjaaGreatW.PrintMore
attribute [local go_sem] max2_int min2_int max_two min_two max_three min_three max_four min_four   -- for this text's walks alone
set_option linter.unusedVariables false
set_option linter.unusedSimpArgs false
def impl_isClass.f (a0 : Int) : Option (Bool) := (impl_from.f a0 0 2).bind fun t101 => (some t101)
set_option maxHeartbeats 8000000 in
set_option maxRecDepth 100000 in
theorem impl_isClass.calls (a0 : Int) (r : Bool) (w : World) (h : impl_isClass.f a0 = some r) :
    Calls Tryz.prog 177 #[.int .i64 a0] w fun e w' => e = .returned (.bool r) ∧ Drawn0 w w' := by
  have H := h
  unfold impl_isClass.f at H
  clear h
  replace H := bE H; obtain ⟨t101, A2, H⟩ := H
  obtain rfl := Option.some.inj H
  go_enter Tryz.func177, Tryz.ntmps177
  go_wp2_with (first | (refine goesM 102 4 Tryz.func102 #[.int .i64 a0, .int .i64 0, .int .i64 2] ?_; refine (impl_from.calls a0 0 2 t101 _ A2.out).mono ?_; rintro e w' ⟨rfl, ⟨nd, rfl⟩⟩; refine ⟨_, rfl, ?_⟩))
  go_ret
  exact ⟨by first | rfl | (simp; done) | (simp [*]; done), dX⟩
end Go.Proofs.YtmljebgideecjaaGreat.P
namespace Go.Proofs.YtmljebgideecjaaGreat.P
open Go.Proofs.YtmljebgideecjaaGreatZ Go.RowKit Go.Proofs.YtmljebgideecjaaGreatW.PrintWords Go.Proofs.YtmljebgideecjaaGreatW.PrintLast Go.Proofs.YtmljebgideecjaaGreatW.PrintMore
attribute [local go_sem] max2_int min2_int max_two min_two max_three min_three max_four min_four   -- for this text's walks alone
set_option linter.unusedVariables false
set_option linter.unusedSimpArgs false
mutual
def impl_OpOk.j0 : Nat → Int → Bool → Int → Int → Int → Option (Bool)
  | 0, _, _, _, _, _ => none
  | k + 1, x4, x5, x102000, x102001, x102002 => if x5 = true then ((impl_KeyOk.f x102001).bind fun t102 => (if t102 = true then ((impl_ValOk.f x102002).bind fun t103 => (some t103)) else (some false))) else (if x4 = 3 then (impl_OpOk.j1 k x4 (x4 == 3) x102000 x102001 x102002) else (impl_OpOk.j1 k x4 (x4 == 4) x102000 x102001 x102002))
def impl_OpOk.j1 : Nat → Int → Bool → Int → Int → Int → Option (Bool)
  | 0, _, _, _, _, _ => none
  | k + 1, x4, x16, x102000, x102001, x102002 => if x16 = true then ((impl_KeyOk.f x102001).bind fun t104 => (if t104 = true then (some (x102002 == 0)) else (some false))) else (if x4 = 5 then (impl_OpOk.j2 k x4 (x4 == 5) x102000 x102001 x102002) else (impl_OpOk.j2 k x4 (x4 == 10) x102000 x102001 x102002))
def impl_OpOk.j2 : Nat → Int → Bool → Int → Int → Int → Option (Bool)
  | 0, _, _, _, _, _ => none
  | k + 1, x4, x27, x102000, x102001, x102002 => if x27 = true then (if x102001 = 0 then ((impl_ValOk.f x102002).bind fun t105 => (some t105)) else (some false)) else (if x4 = 6 then ((impl_isClass.f x102001).bind fun t106 => (if t106 = true then (some (x102002 == 0)) else (some false))) else (if x4 = 7 then (if x102001 = 0 then (some (x102002 == 0)) else (some false)) else (if x4 = 8 then (if x102001 = 0 then (some (x102002 == 0)) else (some false)) else (if x4 = 9 then (if x102001 = 0 then (some (x102002 == 0)) else (some false)) else (some false)))))
end
def impl_OpOk.f (k : Nat) (a0_0 : Int) (a0_1 : Int) (a0_2 : Int) : Option (Bool) := if a0_0 = 1 then (impl_OpOk.j0 k a0_0 (a0_0 == 1) a0_0 a0_1 a0_2) else (impl_OpOk.j0 k a0_0 (a0_0 == 2) a0_0 a0_1 a0_2)
set_option maxHeartbeats 8000000 in
set_option maxRecDepth 100000 in
theorem impl_OpOk.calls (k : Nat) (a0_0 : Int) (a0_1 : Int) (a0_2 : Int) (r : Bool) (w : World) (h : impl_OpOk.f k a0_0 a0_1 a0_2 = some r) :
    Calls Tryz.prog 105 #[.agg #[.int .i64 a0_0, .int .i64 a0_1, .int .i64 a0_2]] w fun e w' => e = .returned (.bool r) ∧ Below w.heap.size w w' := by
  have hu69 := Tryz.underlying69
  have HB := Aside0.mk (Below.refl w.heap.size w)
  have H := h
  unfold impl_OpOk.f at H
  clear h
  have HC2 := Aside0.mk H
  clear H
  go_enter Tryz.func105, Tryz.ntmps105
  go_upto_if 5 with (first | ((with_reducible refine gate_dst (N := 1) rfl ?_); refine boxE 1 #[.int .i64 a0_0, .int .i64 a0_1, .int .i64 a0_2] 69 ?_; intro gbz1 hg wz1 hbox hb; have BKz1 := Aside0.mk (hbox); have GWz1 := Aside0.mk (gX' hg (hX HB.out)); have GEz1 := Aside0.mk (gX' hg (hX HB.out)); replace HB := Aside0.mk (below_step (hX HB.out) hb); clear hb hbox hg; obtain ⟨hczz1, hczz2, hczz3, hfzz1, hfzz2, hfzz3⟩ := cZ3 BKz1.out))
  (try simp only [Act.put, List.setIfInBounds_toArray, List.set_cons_zero, List.set_cons_succ])
  go_cut [5] (fun vz1 wc => ∃ (kq : Nat) (x5_1 : Bool), vz1 = .bool x5_1 ∧ Aside0 (impl_OpOk.j0 kq a0_0 x5_1 a0_0 a0_1 a0_2 = some r) ∧ Aside0 (kq ≤ k) ∧ Aside0 (wc.heap[gbz1]? = some (.cells #[.int .i64 a0_0, .int .i64 a0_1, .int .i64 a0_2] 69 (0, 0))) ∧ Aside0 (Below w.heap.size w wc))
  case first =>
    have H := HC2.out
    clear HC2
    by_cases c5 : a0_0 = 1
    · rw [if_pos c5] at H
      obtain ⟨c5b0, c5b1⟩ := eqT c5
      clear c5
      (first | rw [c5b0] | (simp only [i64_w, i32_w]; rw [c5b0]) | skip)
      have H' := Aside0.mk H
      clear H
      go_wp2
      go_meet
      case rel => exact ⟨_, ((a0_0 == 1)), rS, H', ⟨by first | omega | exact Nat.le_refl _⟩, ⟨(bX BKz1.out)⟩, ⟨(hX HB.out)⟩⟩
    · rw [if_neg c5] at H
      obtain ⟨c5b0, c5b1⟩ := eqF c5
      (first | rw [c5b0] | (simp only [i64_w, i32_w]; rw [c5b0]) | skip)
      have H' := Aside0.mk H
      clear H
      go_wp2
      go_meet
      case rel => exact ⟨_, ((a0_0 == 2)), rS, H', ⟨by first | omega | exact Nat.le_refl _⟩, ⟨(bX BKz1.out)⟩, ⟨(hX HB.out)⟩⟩
  case rest =>
    clear HC2
    try clear c1
    try clear p2
    try clear c5
    try clear c5b0
    try clear c5b1
    try clear hczz1
    try clear hczz2
    try clear hczz3
    try clear hfzz1
    try clear hfzz2
    try clear hfzz3
    obtain ⟨kq, x5_1, rfl, HA, HJy1, BKz1, HB⟩ := hcut
    cases kq with
    | zero => exact absurd HA.out (by simp [impl_OpOk.j0])
    | succ kj1 =>
      have H := HA.out
      clear HA
      simp only [impl_OpOk.j0] at H
      by_cases c6 : x5_1 = true
      · subst c6
        rw [if_pos rfl] at H
        replace H := bE H; obtain ⟨t102, A7, H⟩ := H
        by_cases c8 : t102 = true
        · subst c8
          rw [if_pos rfl] at H
          replace H := bE H; obtain ⟨t103, A9, H⟩ := H
          obtain rfl := Option.some.inj H
          obtain ⟨hczx1, hczx2, hczx3, hfzx1, hfzx2, hfzx3⟩ := cZ3 BKz1.out
          go_wp2_with (first | (refine goesM 176 10 Tryz.func176 #[.int .i64 a0_1] ?_; refine (impl_KeyOk.calls a0_1 true _ A7.out).mono ?_; rintro e w' ⟨rfl, ⟨nd, rfl⟩⟩; refine ⟨_, rfl, ?_⟩) | (go_at_call 174; (with_reducible refine (impl_ValOk.calls a0_2 t103 _ A9.out).mono ?_); rintro e w' ⟨rfl, ⟨nd, rfl⟩⟩))
          go_ret
          exact ⟨rE, (hX HB.out)⟩
        · replace c8 := Bool.eq_false_iff.mpr c8
          subst c8
          rw [if_neg nft] at H
          obtain rfl := Option.some.inj H
          obtain ⟨hczx1, hczx2, hczx3, hfzx1, hfzx2, hfzx3⟩ := cZ3 BKz1.out
          go_wp2_with (first | (refine goesM 176 10 Tryz.func176 #[.int .i64 a0_1] ?_; refine (impl_KeyOk.calls a0_1 false _ A7.out).mono ?_; rintro e w' ⟨rfl, ⟨nd, rfl⟩⟩; refine ⟨_, rfl, ?_⟩))
          go_ret
          exact ⟨rE, (hX HB.out)⟩
      · replace c6 := Bool.eq_false_iff.mpr c6
        subst c6
        rw [if_neg nft] at H
        have HC12 := Aside0.mk H
        clear H
        go_upto_if 16 with (fail)
        go_cut [16] (fun vx1 wc => ∃ (kq : Nat) (x16_11 : Bool), vx1 = .bool x16_11 ∧ Aside0 (impl_OpOk.j1 kq a0_0 x16_11 a0_0 a0_1 a0_2 = some r) ∧ Aside0 (kq ≤ kj1) ∧ Aside0 (wc.heap[gbz1]? = some (.cells #[.int .i64 a0_0, .int .i64 a0_1, .int .i64 a0_2] 69 (0, 0))) ∧ Aside0 (Below w.heap.size w wc))
        case first =>
          have H := HC12.out
          clear HC12
          by_cases c13 : a0_0 = 3
          · rw [if_pos c13] at H
            obtain ⟨c13b0, c13b1⟩ := eqT c13
            clear c13
            (first | rw [c13b0] | (simp only [i64_w, i32_w]; rw [c13b0]) | skip)
            have H' := Aside0.mk H
            clear H
            go_wp2
            go_meet
            case rel => exact ⟨_, ((a0_0 == 3)), rS, H', ⟨by have := HJy1.out; first | omega | exact Nat.le_refl _⟩, ⟨(bX BKz1.out)⟩, ⟨(hX HB.out)⟩⟩
          · rw [if_neg c13] at H
            obtain ⟨c13b0, c13b1⟩ := eqF c13
            (first | rw [c13b0] | (simp only [i64_w, i32_w]; rw [c13b0]) | skip)
            have H' := Aside0.mk H
            clear H
            go_wp2
            go_meet
            case rel => exact ⟨_, ((a0_0 == 4)), rS, H', ⟨by have := HJy1.out; first | omega | exact Nat.le_refl _⟩, ⟨(bX BKz1.out)⟩, ⟨(hX HB.out)⟩⟩
        case rest =>
          clear HC12
          try clear c1
          try clear p2
          try clear c5
          try clear c5b0
          try clear c5b1
          try clear c6
          try clear c8
          try clear c10
          try clear c13
          try clear c13b0
          try clear c13b1
          try clear hcz10_0
          try clear hcz10_1
          try clear hcz10_2
          try clear hcz11_0
          try clear hcz11_1
          try clear hcz11_2
          try clear hczz1
          try clear hczz2
          try clear hczz3
          try clear hfz10_0
          try clear hfz10_1
          try clear hfz10_2
          try clear hfz11_0
          try clear hfz11_1
          try clear hfz11_2
          try clear hfzz1
          try clear hfzz2
          try clear hfzz3
          try clear p2
          obtain ⟨kq, x16_11, rfl, HA, HJw1, BKz1, HB⟩ := hcut
          cases kq with
          | zero => exact absurd HA.out (by simp [impl_OpOk.j1])
          | succ kj11 =>
            have H := HA.out
            clear HA
            simp only [impl_OpOk.j1] at H
            by_cases c14 : x16_11 = true
            · subst c14
              rw [if_pos rfl] at H
              replace H := bE H; obtain ⟨t104, A15, H⟩ := H
              by_cases c16 : t104 = true
              · subst c16
                rw [if_pos rfl] at H
                obtain rfl := Option.some.inj H
                obtain ⟨hczv1, hczv2, hczv3, hfzv1, hfzv2, hfzv3⟩ := cZ3 BKz1.out
                go_wp2_with (first | (refine goesM 176 21 Tryz.func176 #[.int .i64 a0_1] ?_; refine (impl_KeyOk.calls a0_1 true _ A15.out).mono ?_; rintro e w' ⟨rfl, ⟨nd, rfl⟩⟩; refine ⟨_, rfl, ?_⟩))
                go_ret
                exact ⟨rE, (hX HB.out)⟩
              · replace c16 := Bool.eq_false_iff.mpr c16
                subst c16
                rw [if_neg nft] at H
                obtain rfl := Option.some.inj H
                obtain ⟨hczv1, hczv2, hczv3, hfzv1, hfzv2, hfzv3⟩ := cZ3 BKz1.out
                go_wp2_with (first | (refine goesM 176 21 Tryz.func176 #[.int .i64 a0_1] ?_; refine (impl_KeyOk.calls a0_1 false _ A15.out).mono ?_; rintro e w' ⟨rfl, ⟨nd, rfl⟩⟩; refine ⟨_, rfl, ?_⟩))
                go_ret
                exact ⟨rE, (hX HB.out)⟩
            · replace c14 := Bool.eq_false_iff.mpr c14
              subst c14
              rw [if_neg nft] at H
              have HC19 := Aside0.mk H
              clear H
              go_upto_if 27 with (fail)
              go_cut [27] (fun vv1 wc => ∃ (kq : Nat) (x27_18 : Bool), vv1 = .bool x27_18 ∧ Aside0 (impl_OpOk.j2 kq a0_0 x27_18 a0_0 a0_1 a0_2 = some r) ∧ Aside0 (kq ≤ kj11) ∧ Aside0 (wc.heap[gbz1]? = some (.cells #[.int .i64 a0_0, .int .i64 a0_1, .int .i64 a0_2] 69 (0, 0))) ∧ Aside0 (Below w.heap.size w wc))
              case first =>
                have H := HC19.out
                clear HC19
                by_cases c20 : a0_0 = 5
                · rw [if_pos c20] at H
                  obtain ⟨c20b0, c20b1⟩ := eqT c20
                  clear c20
                  (first | rw [c20b0] | (simp only [i64_w, i32_w]; rw [c20b0]) | skip)
                  have H' := Aside0.mk H
                  clear H
                  go_wp2
                  go_meet
                  case rel => exact ⟨_, ((a0_0 == 5)), rS, H', ⟨by have := HJy1.out; have := HJw1.out; first | omega | exact Nat.le_refl _⟩, ⟨(bX BKz1.out)⟩, ⟨(hX HB.out)⟩⟩
                · rw [if_neg c20] at H
                  obtain ⟨c20b0, c20b1⟩ := eqF c20
                  (first | rw [c20b0] | (simp only [i64_w, i32_w]; rw [c20b0]) | skip)
                  have H' := Aside0.mk H
                  clear H
                  go_wp2
                  go_meet
                  case rel => exact ⟨_, ((a0_0 == 10)), rS, H', ⟨by have := HJy1.out; have := HJw1.out; first | omega | exact Nat.le_refl _⟩, ⟨(bX BKz1.out)⟩, ⟨(hX HB.out)⟩⟩
              case rest =>
                clear HC19
                try clear c1
                try clear c2
                try clear p2
                try clear c5
                try clear c5b0
                try clear c5b1
                try clear c6
                try clear c8
                try clear c10
                try clear c13
                try clear c13b0
                try clear c13b1
                try clear c14
                try clear c16
                try clear c17
                try clear c20
                try clear c20b0
                try clear c20b1
                try clear hcz10_0
                try clear hcz10_1
                try clear hcz10_2
                try clear hcz11_0
                try clear hcz11_1
                try clear hcz11_2
                try clear hcz17_0
                try clear hcz17_1
                try clear hcz17_2
                try clear hcz18_0
                try clear hcz18_1
                try clear hcz18_2
                try clear hczz1
                try clear hczz2
                try clear hczz3
                try clear hfz10_0
                try clear hfz10_1
                try clear hfz10_2
                try clear hfz11_0
                try clear hfz11_1
                try clear hfz11_2
                try clear hfz17_0
                try clear hfz17_1
                try clear hfz17_2
                try clear hfz18_0
                try clear hfz18_1
                try clear hfz18_2
                try clear hfzz1
                try clear hfzz2
                try clear hfzz3
                try clear p2
                obtain ⟨kq, x27_18, rfl, HA, HJu1, BKz1, HB⟩ := hcut
                cases kq with
                | zero => exact absurd HA.out (by simp [impl_OpOk.j2])
                | succ kj18 =>
                  have H := HA.out
                  clear HA
                  simp only [impl_OpOk.j2] at H
                  by_cases c21 : x27_18 = true
                  · subst c21
                    rw [if_pos rfl] at H
                    by_cases c22 : a0_1 = 0
                    · rw [if_pos c22] at H
                      obtain ⟨c22b0, c22b1⟩ := eqT c22
                      clear c22
                      replace H := bE H; obtain ⟨t105, A23, H⟩ := H
                      obtain rfl := Option.some.inj H
                      obtain ⟨hczt1, hczt2, hczt3, hfzt1, hfzt2, hfzt3⟩ := cZ3 BKz1.out
                      go_wp2_with (first | (go_at_call 174; (with_reducible refine (impl_ValOk.calls a0_2 t105 _ A23.out).mono ?_); rintro e w' ⟨rfl, ⟨nd, rfl⟩⟩))
                      go_ret
                      exact ⟨rE, (hX HB.out)⟩
                    · rw [if_neg c22] at H
                      obtain ⟨c22b0, c22b1⟩ := eqF c22
                      obtain rfl := Option.some.inj H
                      obtain ⟨hczt1, hczt2, hczt3, hfzt1, hfzt2, hfzt3⟩ := cZ3 BKz1.out
                      go_wp2
                      go_ret
                      exact ⟨rE, (hX HB.out)⟩
                  · replace c21 := Bool.eq_false_iff.mpr c21
                    subst c21
                    rw [if_neg nft] at H
                    by_cases c26 : a0_0 = 6
                    · rw [if_pos c26] at H
                      obtain ⟨c26b0, c26b1⟩ := eqT c26
                      clear c26
                      replace H := bE H; obtain ⟨t106, A27, H⟩ := H
                      by_cases c28 : t106 = true
                      · subst c28
                        rw [if_pos rfl] at H
                        obtain rfl := Option.some.inj H
                        obtain ⟨hczt1, hczt2, hczt3, hfzt1, hfzt2, hfzt3⟩ := cZ3 BKz1.out
                        go_wp2_with (first | (refine goesM 177 42 Tryz.func177 #[.int .i64 a0_1] ?_; refine (impl_isClass.calls a0_1 true _ A27.out).mono ?_; rintro e w' ⟨rfl, ⟨nd, rfl⟩⟩; refine ⟨_, rfl, ?_⟩))
                        go_ret
                        exact ⟨rE, (hX HB.out)⟩
                      · replace c28 := Bool.eq_false_iff.mpr c28
                        subst c28
                        rw [if_neg nft] at H
                        obtain rfl := Option.some.inj H
                        obtain ⟨hczt1, hczt2, hczt3, hfzt1, hfzt2, hfzt3⟩ := cZ3 BKz1.out
                        go_wp2_with (first | (refine goesM 177 42 Tryz.func177 #[.int .i64 a0_1] ?_; refine (impl_isClass.calls a0_1 false _ A27.out).mono ?_; rintro e w' ⟨rfl, ⟨nd, rfl⟩⟩; refine ⟨_, rfl, ?_⟩))
                        go_ret
                        exact ⟨rE, (hX HB.out)⟩
                    · rw [if_neg c26] at H
                      obtain ⟨c26b0, c26b1⟩ := eqF c26
                      by_cases c31 : a0_0 = 7
                      · rw [if_pos c31] at H
                        obtain ⟨c31b0, c31b1⟩ := eqT c31
                        clear c31
                        by_cases c32 : a0_1 = 0
                        · rw [if_pos c32] at H
                          obtain ⟨c32b0, c32b1⟩ := eqT c32
                          clear c32
                          obtain rfl := Option.some.inj H
                          obtain ⟨hczt1, hczt2, hczt3, hfzt1, hfzt2, hfzt3⟩ := cZ3 BKz1.out
                          go_wp2
                          go_ret
                          exact ⟨rE, (hX HB.out)⟩
                        · rw [if_neg c32] at H
                          obtain ⟨c32b0, c32b1⟩ := eqF c32
                          obtain rfl := Option.some.inj H
                          obtain ⟨hczt1, hczt2, hczt3, hfzt1, hfzt2, hfzt3⟩ := cZ3 BKz1.out
                          go_wp2
                          go_ret
                          exact ⟨rE, (hX HB.out)⟩
                      · rw [if_neg c31] at H
                        obtain ⟨c31b0, c31b1⟩ := eqF c31
                        by_cases c35 : a0_0 = 8
                        · rw [if_pos c35] at H
                          obtain ⟨c35b0, c35b1⟩ := eqT c35
                          clear c35
                          by_cases c36 : a0_1 = 0
                          · rw [if_pos c36] at H
                            obtain ⟨c36b0, c36b1⟩ := eqT c36
                            clear c36
                            obtain rfl := Option.some.inj H
                            obtain ⟨hczt1, hczt2, hczt3, hfzt1, hfzt2, hfzt3⟩ := cZ3 BKz1.out
                            go_wp2
                            go_ret
                            exact ⟨rE, (hX HB.out)⟩
                          · rw [if_neg c36] at H
                            obtain ⟨c36b0, c36b1⟩ := eqF c36
                            obtain rfl := Option.some.inj H
                            obtain ⟨hczt1, hczt2, hczt3, hfzt1, hfzt2, hfzt3⟩ := cZ3 BKz1.out
                            go_wp2
                            go_ret
                            exact ⟨rE, (hX HB.out)⟩
                        · rw [if_neg c35] at H
                          obtain ⟨c35b0, c35b1⟩ := eqF c35
                          by_cases c39 : a0_0 = 9
                          · rw [if_pos c39] at H
                            obtain ⟨c39b0, c39b1⟩ := eqT c39
                            clear c39
                            by_cases c40 : a0_1 = 0
                            · rw [if_pos c40] at H
                              obtain ⟨c40b0, c40b1⟩ := eqT c40
                              clear c40
                              obtain rfl := Option.some.inj H
                              obtain ⟨hczt1, hczt2, hczt3, hfzt1, hfzt2, hfzt3⟩ := cZ3 BKz1.out
                              go_wp2
                              go_ret
                              exact ⟨rE, (hX HB.out)⟩
                            · rw [if_neg c40] at H
                              obtain ⟨c40b0, c40b1⟩ := eqF c40
                              obtain rfl := Option.some.inj H
                              obtain ⟨hczt1, hczt2, hczt3, hfzt1, hfzt2, hfzt3⟩ := cZ3 BKz1.out
                              go_wp2
                              go_ret
                              exact ⟨rE, (hX HB.out)⟩
                          · rw [if_neg c39] at H
                            obtain ⟨c39b0, c39b1⟩ := eqF c39
                            obtain rfl := Option.some.inj H
                            go_wp2
                            go_ret
                            exact ⟨rE, (hX HB.out)⟩
end Go.Proofs.YtmljebgideecjaaGreat.P
namespace Go.Proofs.YtmljebgideecjaaGreat.P
open Go.Proofs.YtmljebgideecjaaGreatZ Go.RowKit Go.Proofs.YtmljebgideecjaaGreatW.PrintWords Go.Proofs.YtmljebgideecjaaGreatW.PrintLast Go.Proofs.YtmljebgideecjaaGreatW.PrintMore
attribute [local go_sem] max2_int min2_int max_two min_two max_three min_three max_four min_four   -- for this text's walks alone
set_option linter.unusedVariables false
set_option linter.unusedSimpArgs false
def impl_opWord.f (a0 : Int) : Option (ByteArray × Bool × Bool) := if a0 = 1 then (some ((⟨#[112, 117, 116]⟩ : ByteArray), true, true)) else (if a0 = 2 then (some ((⟨#[115, 101, 116]⟩ : ByteArray), true, true)) else (if a0 = 3 then (some ((⟨#[100, 101, 108]⟩ : ByteArray), true, false)) else (if a0 = 4 then (some ((⟨#[103, 101, 116]⟩ : ByteArray), true, false)) else (if a0 = 5 then (some ((⟨#[102, 105, 110, 100]⟩ : ByteArray), false, true)) else (if a0 = 6 then (some ((⟨#[99, 111, 117, 110, 116]⟩ : ByteArray), true, false)) else (if a0 = 7 then (some ((⟨#[115, 99, 97, 110]⟩ : ByteArray), false, false)) else (if a0 = 8 then (some ((⟨#[111, 112, 101, 110]⟩ : ByteArray), false, false)) else (if a0 = 9 then (some ((⟨#[109, 97, 107, 101]⟩ : ByteArray), false, false)) else (some ((⟨#[118, 105, 97]⟩ : ByteArray), false, true))))))))))
set_option maxHeartbeats 8000000 in
set_option maxRecDepth 100000 in
theorem impl_opWord.calls (a0 : Int) (r1 : ByteArray) (r2 : Bool) (r3 : Bool) (w : World) (h : impl_opWord.f a0 = some (r1, r2, r3)) :
    Calls Tryz.prog 195 #[.int .i64 a0] w fun e w' => e = .returned (.tuple #[.string r1, .bool r2, .bool r3]) ∧ Drawn0 w w' := by
  have H := h
  unfold impl_opWord.f at H
  clear h
  go_enter Tryz.func195, Tryz.ntmps195
  by_cases c2 : a0 = 1
  · rw [if_pos c2] at H
    obtain ⟨c2b0, c2b1⟩ := eqT c2
    clear c2
    simp only [Option.some.injEq, Prod.mk.injEq] at H
    obtain ⟨rfl, rfl, rfl⟩ := H
    go_wp2
    go_ret3
    exact ⟨by first | rfl | (simp; done) | (simp [*]; done), dX⟩
  · rw [if_neg c2] at H
    obtain ⟨c2b0, c2b1⟩ := eqF c2
    by_cases c3 : a0 = 2
    · rw [if_pos c3] at H
      obtain ⟨c3b0, c3b1⟩ := eqT c3
      clear c3
      simp only [Option.some.injEq, Prod.mk.injEq] at H
      obtain ⟨rfl, rfl, rfl⟩ := H
      go_wp2
      go_ret3
      exact ⟨by first | rfl | (simp; done) | (simp [*]; done), dX⟩
    · rw [if_neg c3] at H
      obtain ⟨c3b0, c3b1⟩ := eqF c3
      by_cases c4 : a0 = 3
      · rw [if_pos c4] at H
        obtain ⟨c4b0, c4b1⟩ := eqT c4
        clear c4
        simp only [Option.some.injEq, Prod.mk.injEq] at H
        obtain ⟨rfl, rfl, rfl⟩ := H
        go_wp2
        go_ret3
        exact ⟨by first | rfl | (simp; done) | (simp [*]; done), dX⟩
      · rw [if_neg c4] at H
        obtain ⟨c4b0, c4b1⟩ := eqF c4
        by_cases c5 : a0 = 4
        · rw [if_pos c5] at H
          obtain ⟨c5b0, c5b1⟩ := eqT c5
          clear c5
          simp only [Option.some.injEq, Prod.mk.injEq] at H
          obtain ⟨rfl, rfl, rfl⟩ := H
          go_wp2
          go_ret3
          exact ⟨by first | rfl | (simp; done) | (simp [*]; done), dX⟩
        · rw [if_neg c5] at H
          obtain ⟨c5b0, c5b1⟩ := eqF c5
          by_cases c6 : a0 = 5
          · rw [if_pos c6] at H
            obtain ⟨c6b0, c6b1⟩ := eqT c6
            clear c6
            simp only [Option.some.injEq, Prod.mk.injEq] at H
            obtain ⟨rfl, rfl, rfl⟩ := H
            go_wp2
            go_ret3
            exact ⟨by first | rfl | (simp; done) | (simp [*]; done), dX⟩
          · rw [if_neg c6] at H
            obtain ⟨c6b0, c6b1⟩ := eqF c6
            by_cases c7 : a0 = 6
            · rw [if_pos c7] at H
              obtain ⟨c7b0, c7b1⟩ := eqT c7
              clear c7
              simp only [Option.some.injEq, Prod.mk.injEq] at H
              obtain ⟨rfl, rfl, rfl⟩ := H
              go_wp2
              go_ret3
              exact ⟨by first | rfl | (simp; done) | (simp [*]; done), dX⟩
            · rw [if_neg c7] at H
              obtain ⟨c7b0, c7b1⟩ := eqF c7
              by_cases c8 : a0 = 7
              · rw [if_pos c8] at H
                obtain ⟨c8b0, c8b1⟩ := eqT c8
                clear c8
                simp only [Option.some.injEq, Prod.mk.injEq] at H
                obtain ⟨rfl, rfl, rfl⟩ := H
                go_wp2
                go_ret3
                exact ⟨by first | rfl | (simp; done) | (simp [*]; done), dX⟩
              · rw [if_neg c8] at H
                obtain ⟨c8b0, c8b1⟩ := eqF c8
                by_cases c9 : a0 = 8
                · rw [if_pos c9] at H
                  obtain ⟨c9b0, c9b1⟩ := eqT c9
                  clear c9
                  simp only [Option.some.injEq, Prod.mk.injEq] at H
                  obtain ⟨rfl, rfl, rfl⟩ := H
                  go_wp2
                  go_ret3
                  exact ⟨by first | rfl | (simp; done) | (simp [*]; done), dX⟩
                · rw [if_neg c9] at H
                  obtain ⟨c9b0, c9b1⟩ := eqF c9
                  by_cases c10 : a0 = 9
                  · rw [if_pos c10] at H
                    obtain ⟨c10b0, c10b1⟩ := eqT c10
                    clear c10
                    simp only [Option.some.injEq, Prod.mk.injEq] at H
                    obtain ⟨rfl, rfl, rfl⟩ := H
                    go_wp2
                    go_ret3
                    exact ⟨by first | rfl | (simp; done) | (simp [*]; done), dX⟩
                  · rw [if_neg c10] at H
                    obtain ⟨c10b0, c10b1⟩ := eqF c10
                    simp only [Option.some.injEq, Prod.mk.injEq] at H
                    obtain ⟨rfl, rfl, rfl⟩ := H
                    go_wp2
                    go_ret3
                    exact ⟨by first | rfl | (simp; done) | (simp [*]; done), dX⟩
end Go.Proofs.YtmljebgideecjaaGreat.P
namespace Go.Proofs.YtmljebgideecjaaGreat.P
open Go.Proofs.YtmljebgideecjaaGreatZ Go.RowKit Go.Proofs.YtmljebgideecjaaGreatW.PrintWords Go.Proofs.YtmljebgideecjaaGreatW.PrintLast Go.Proofs.YtmljebgideecjaaGreatW.PrintMore
attribute [local go_sem] max2_int min2_int max_two min_two max_three min_three max_four min_four   -- for this text's walks alone
set_option linter.unusedVariables false
set_option linter.unusedSimpArgs false
def impl_OpText.f (k : Nat) (a0_0 : Int) (a0_1 : Int) (a0_2 : Int) : Option (ByteArray) := (impl_OpOk.f k a0_0 a0_1 a0_2).bind fun t102 => (if t102 = true then ((impl_opWord.f a0_0).bind fun bt103 => (if bt103.2.1 = true then ((impl_Digits.f k a0_1).bind fun t106 => (if 1 + t106.size ≤ 9223372036854775807 then (if bt103.1.size + ((⟨#[32]⟩ : ByteArray) ++ t106).size ≤ 9223372036854775807 then (if bt103.2.2 = true then ((impl_Digits.f k a0_2).bind fun t107 => (if 1 + t107.size ≤ 9223372036854775807 then (if (bt103.1 ++ ((⟨#[32]⟩ : ByteArray) ++ t106)).size + ((⟨#[32]⟩ : ByteArray) ++ t107).size ≤ 9223372036854775807 then (some ((bt103.1 ++ ((⟨#[32]⟩ : ByteArray) ++ t106)) ++ ((⟨#[32]⟩ : ByteArray) ++ t107))) else (none)) else (none))) else (some (bt103.1 ++ ((⟨#[32]⟩ : ByteArray) ++ t106)))) else (none)) else (none))) else (if bt103.2.2 = true then ((impl_Digits.f k a0_2).bind fun t108 => (if 1 + t108.size ≤ 9223372036854775807 then (if bt103.1.size + ((⟨#[32]⟩ : ByteArray) ++ t108).size ≤ 9223372036854775807 then (some (bt103.1 ++ ((⟨#[32]⟩ : ByteArray) ++ t108))) else (none)) else (none))) else (some bt103.1)))) else (some (⟨#[110, 111, 110, 101]⟩ : ByteArray)))
set_option maxHeartbeats 8000000 in
set_option maxRecDepth 100000 in
theorem impl_OpText.calls (k : Nat) (a0_0 : Int) (a0_1 : Int) (a0_2 : Int) (r : ByteArray) (w : World) (h : impl_OpText.f k a0_0 a0_1 a0_2 = some r) :
    Calls Tryz.prog 124 #[.agg #[.int .i64 a0_0, .int .i64 a0_1, .int .i64 a0_2]] w fun e w' => e = .returned (.string r) ∧ Below w.heap.size w w' := by
  have hu69 := Tryz.underlying69
  have HB := Aside0.mk (Below.refl w.heap.size w)
  have H := h
  unfold impl_OpText.f at H
  clear h
  replace H := bE H; obtain ⟨t102, A2, H⟩ := H
  go_enter Tryz.func124, Tryz.ntmps124
  go_wp2_with (first | (refine boxE 1 #[.int .i64 a0_0, .int .i64 a0_1, .int .i64 a0_2] 69 ?_; intro gbz1 hg wz1 hbox hb; have BKz1 := Aside0.mk (hbox); have GWz1 := Aside0.mk (gX' hg (hX HB.out)); have GEz1 := Aside0.mk (gX' hg (hX HB.out)); replace HB := Aside0.mk (below_step (hX HB.out) hb); clear hb hbox hg; obtain ⟨hczz1, hczz2, hczz3, hfzz1, hfzz2, hfzz3⟩ := cZ3 BKz1.out; refine Stop.out ?_))
  refine ⟨?_⟩
  by_cases c3 : t102 = true
  · subst c3
    rw [if_pos rfl] at H
    replace H := bE H; obtain ⟨⟨t103, t104, t105⟩, A4, H⟩ := H
    try dsimp only at H
    go_wp2_with (first | (refine goesM 105 7 Tryz.func105 #[.agg #[.int .i64 a0_0, .int .i64 a0_1, .int .i64 a0_2]] ?_; refine (impl_OpOk.calls k a0_0 a0_1 a0_2 true _ A2.out).mono ?_; rintro e wz2 ⟨rfl, hb⟩; refine ⟨_, rfl, ?_⟩; replace BKz1 := Aside0.mk (blk_below (bX BKz1.out) hb); replace HB := Aside0.mk (below_step (hX HB.out) hb); clear hb; obtain ⟨hczz4, hczz5, hczz6, hfzz4, hfzz5, hfzz6⟩ := cZ3 BKz1.out; refine Stop.out ?_))
    refine ⟨?_⟩
    by_cases c5 : t104 = true
    · subst c5
      rw [if_pos rfl] at H
      replace H := bE H; obtain ⟨t106, A6, H⟩ := H
      replace H := ifP H; obtain ⟨c7, H⟩ := H
      have c7b0 := eq_true c7
      have c7b1 := decide_eq_true c7
      try have c7b2 : (9223372036854775807 < 1 + t106.size) = False := eq_false (Nat.not_lt.2 c7)
      replace H := ifP H; obtain ⟨c8, H⟩ := H
      have c8b0 := eq_true c8
      have c8b1 := decide_eq_true c8
      try have c8b2 : (9223372036854775807 < t103.size + ((⟨#[32]⟩ : ByteArray) ++ t106).size) = False := eq_false (Nat.not_lt.2 c8)
      (try (have c8b3 : t103.size + (1 + t106.size) ≤ 9223372036854775807 := (by have h_ := c8; simp only [ByteArray.size_append, strOfNums_size] at h_; exact h_); have c8b4 := eq_true c8b3; (try have c8b5 := decide_eq_true c8b3); (try have c8b6 := eq_false (Nat.not_lt.2 c8b3))))
      by_cases c9 : t105 = true
      · subst c9
        rw [if_pos rfl] at H
        replace H := bE H; obtain ⟨t107, A10, H⟩ := H
        replace H := ifP H; obtain ⟨c11, H⟩ := H
        have c11b0 := eq_true c11
        have c11b1 := decide_eq_true c11
        try have c11b2 : (9223372036854775807 < 1 + t107.size) = False := eq_false (Nat.not_lt.2 c11)
        replace H := ifP H; obtain ⟨c12, H⟩ := H
        have c12b0 := eq_true c12
        have c12b1 := decide_eq_true c12
        try have c12b2 : (9223372036854775807 < (t103 ++ ((⟨#[32]⟩ : ByteArray) ++ t106)).size + ((⟨#[32]⟩ : ByteArray) ++ t107).size) = False := eq_false (Nat.not_lt.2 c12)
        (try (have c12b3 : t103.size + 1 + t106.size + (1 + t107.size) ≤ 9223372036854775807 := (by have h_ := c12; simp only [ByteArray.size_append, strOfNums_size] at h_; exact h_); have c12b4 := eq_true c12b3; (try have c12b5 := decide_eq_true c12b3); (try have c12b6 := eq_false (Nat.not_lt.2 c12b3))))
        obtain rfl := Option.some.inj H
        go_wp2_with (first | (refine goesM 195 12 Tryz.func195 #[.int .i64 a0_0] ?_; refine (impl_opWord.calls a0_0 t103 true true _ A4.out).mono ?_; rintro e w' ⟨rfl, ⟨nd, rfl⟩⟩; refine ⟨_, rfl, ?_⟩) | (refine goesM 120 20 Tryz.func120 #[.int .i64 a0_1] ?_; refine (impl_Digits.calls k a0_1 t106 _ A6.out).mono ?_; rintro e w' ⟨rfl, ⟨nd, rfl⟩⟩; refine ⟨_, rfl, ?_⟩) | (refine goesM 120 27 Tryz.func120 #[.int .i64 a0_2] ?_; refine (impl_Digits.calls k a0_2 t107 _ A10.out).mono ?_; rintro e w' ⟨rfl, ⟨nd, rfl⟩⟩; refine ⟨_, rfl, ?_⟩))
        go_ret
        exact ⟨rE, (hX HB.out)⟩
      · replace c9 := Bool.eq_false_iff.mpr c9
        subst c9
        rw [if_neg nft] at H
        obtain rfl := Option.some.inj H
        go_wp2_with (first | (refine goesM 195 12 Tryz.func195 #[.int .i64 a0_0] ?_; refine (impl_opWord.calls a0_0 t103 true false _ A4.out).mono ?_; rintro e w' ⟨rfl, ⟨nd, rfl⟩⟩; refine ⟨_, rfl, ?_⟩) | (refine goesM 120 20 Tryz.func120 #[.int .i64 a0_1] ?_; refine (impl_Digits.calls k a0_1 t106 _ A6.out).mono ?_; rintro e w' ⟨rfl, ⟨nd, rfl⟩⟩; refine ⟨_, rfl, ?_⟩))
        go_ret
        exact ⟨rE, (hX HB.out)⟩
    · replace c5 := Bool.eq_false_iff.mpr c5
      subst c5
      rw [if_neg nft] at H
      by_cases c21 : t105 = true
      · subst c21
        rw [if_pos rfl] at H
        replace H := bE H; obtain ⟨t108, A22, H⟩ := H
        replace H := ifP H; obtain ⟨c23, H⟩ := H
        have c23b0 := eq_true c23
        have c23b1 := decide_eq_true c23
        try have c23b2 : (9223372036854775807 < 1 + t108.size) = False := eq_false (Nat.not_lt.2 c23)
        replace H := ifP H; obtain ⟨c24, H⟩ := H
        have c24b0 := eq_true c24
        have c24b1 := decide_eq_true c24
        try have c24b2 : (9223372036854775807 < t103.size + ((⟨#[32]⟩ : ByteArray) ++ t108).size) = False := eq_false (Nat.not_lt.2 c24)
        (try (have c24b3 : t103.size + (1 + t108.size) ≤ 9223372036854775807 := (by have h_ := c24; simp only [ByteArray.size_append, strOfNums_size] at h_; exact h_); have c24b4 := eq_true c24b3; (try have c24b5 := decide_eq_true c24b3); (try have c24b6 := eq_false (Nat.not_lt.2 c24b3))))
        obtain rfl := Option.some.inj H
        go_wp2_with (first | (refine goesM 195 12 Tryz.func195 #[.int .i64 a0_0] ?_; refine (impl_opWord.calls a0_0 t103 false true _ A4.out).mono ?_; rintro e w' ⟨rfl, ⟨nd, rfl⟩⟩; refine ⟨_, rfl, ?_⟩) | (refine goesM 120 27 Tryz.func120 #[.int .i64 a0_2] ?_; refine (impl_Digits.calls k a0_2 t108 _ A22.out).mono ?_; rintro e w' ⟨rfl, ⟨nd, rfl⟩⟩; refine ⟨_, rfl, ?_⟩))
        go_ret
        exact ⟨rE, (hX HB.out)⟩
      · replace c21 := Bool.eq_false_iff.mpr c21
        subst c21
        rw [if_neg nft] at H
        obtain rfl := Option.some.inj H
        go_wp2_with (first | (refine goesM 195 12 Tryz.func195 #[.int .i64 a0_0] ?_; refine (impl_opWord.calls a0_0 t103 false false _ A4.out).mono ?_; rintro e w' ⟨rfl, ⟨nd, rfl⟩⟩; refine ⟨_, rfl, ?_⟩))
        go_ret
        exact ⟨rE, (hX HB.out)⟩
  · replace c3 := Bool.eq_false_iff.mpr c3
    subst c3
    rw [if_neg nft] at H
    obtain rfl := Option.some.inj H
    go_wp2_with (first | (refine goesM 105 7 Tryz.func105 #[.agg #[.int .i64 a0_0, .int .i64 a0_1, .int .i64 a0_2]] ?_; refine (impl_OpOk.calls k a0_0 a0_1 a0_2 false _ A2.out).mono ?_; rintro e wz2 ⟨rfl, hb⟩; refine ⟨_, rfl, ?_⟩; replace BKz1 := Aside0.mk (blk_below (bX BKz1.out) hb); replace HB := Aside0.mk (below_step (hX HB.out) hb); clear hb))
    go_ret
    exact ⟨rE, (hX HB.out)⟩
end Go.Proofs.YtmljebgideecjaaGreat.P
namespace Go.Proofs.YtmljebgideecjaaGreat.P
open Go.Proofs.YtmljebgideecjaaGreatZ Go.RowKit Go.Proofs.YtmljebgideecjaaGreatW.PrintWords Go.Proofs.YtmljebgideecjaaGreatW.PrintLast Go.Proofs.YtmljebgideecjaaGreatW.PrintMore
attribute [local go_sem] max2_int min2_int max_two min_two max_three min_three max_four min_four   -- for this text's walks alone
set_option linter.unusedVariables false
set_option linter.unusedSimpArgs false
def impl_ResText.f (k : Nat) (a0_0 : Int) (l0_1 : List Int) : Option (ByteArray) := (impl_from.f a0_0 0 4).bind fun t102 => (if t102 = true then ((some (([(⟨#[100, 111, 110, 101]⟩ : ByteArray), (⟨#[116, 104, 101, 114, 101]⟩ : ByteArray), (⟨#[116, 97, 107, 101, 110]⟩ : ByteArray), (⟨#[110, 111, 110, 101]⟩ : ByteArray), (⟨#[110, 111, 116]⟩ : ByteArray)] : List ByteArray) : List ByteArray)).bind fun y103 => (if 0 ≤ a0_0 then (if a0_0 < (y103.length : Int) then (if (l0_1.length : Int) > 0 then ((impl_NumsText.f k l0_1).bind fun t107 => (if 1 + t107.size ≤ 9223372036854775807 then (if (rdOf ByteArray.empty y103 a0_0).size + ((⟨#[32]⟩ : ByteArray) ++ t107).size ≤ 9223372036854775807 then (some ((rdOf ByteArray.empty y103 a0_0) ++ ((⟨#[32]⟩ : ByteArray) ++ t107))) else (none)) else (none))) else (some (rdOf ByteArray.empty y103 a0_0))) else (none)) else (none))) else (if (l0_1.length : Int) > 0 then ((impl_NumsText.f k l0_1).bind fun t108 => (if 1 + t108.size ≤ 9223372036854775807 then (if 4 + ((⟨#[32]⟩ : ByteArray) ++ t108).size ≤ 9223372036854775807 then (some ((⟨#[119, 104, 97, 116]⟩ : ByteArray) ++ ((⟨#[32]⟩ : ByteArray) ++ t108))) else (none)) else (none))) else (some (⟨#[119, 104, 97, 116]⟩ : ByteArray))))
set_option maxHeartbeats 8000000 in
set_option maxRecDepth 100000 in
theorem impl_ResText.calls (k : Nat) (a0_0 : Int) (A0_1 : Option Addr) (c0_1 : Nat) (l0_1 : List Int) (r : ByteArray) (w : World) (hr0_1 : Kd.C (Kd.int .i64) w A0_1 l0_1.length l0_1) (hc0_1 : l0_1.length ≤ c0_1) (h : impl_ResText.f k a0_0 l0_1 = some r) :
    Calls Tryz.prog 125 #[.agg #[.int .i64 a0_0, .slice A0_1 l0_1.length c0_1]] w fun e w' => e = .returned (.string r) ∧ Below w.heap.size w w' := by
  have hu71 := Tryz.underlying71
  have HR0_1 := Aside0.mk hr0_1
  have HC0_1 := Aside0.mk hc0_1
  clear hr0_1 hc0_1
  have HB := Aside0.mk (Below.refl w.heap.size w)
  have H := h
  unfold impl_ResText.f at H
  clear h
  replace H := bE H; obtain ⟨t102, A2, H⟩ := H
  go_enter Tryz.func125, Tryz.ntmps125
  go_wp2_with (first | (refine boxE 1 #[.int .i64 a0_0, .slice A0_1 l0_1.length c0_1] 71 ?_; intro gbz1 hg wz1 hbox hb; have BKz1 := Aside0.mk (hbox); have GWz1 := Aside0.mk (gX' hg (hX HB.out)); have GEz1 := Aside0.mk (gX' hg (hX HB.out)); replace HB := Aside0.mk (below_step (hX HB.out) hb); clear hb hbox hg; obtain ⟨hczz1, hczz2, hfzz1, hfzz2⟩ := cZ2 BKz1.out; refine Stop.out ?_))
  refine ⟨?_⟩
  by_cases c3 : t102 = true
  · subst c3
    rw [if_pos rfl] at H
    replace H := sE H; obtain ⟨y103, Ny103, H⟩ := H
    replace H := ifP H; obtain ⟨c4, H⟩ := H
    have c4b0 := decide_eq_true c4
    clear c4
    replace H := ifP H; obtain ⟨c5, H⟩ := H
    have c5b0 := decide_eq_true c5
    clear c5
    go_wp2_with (first | (refine goesM 102 6 Tryz.func102 #[.int .i64 a0_0, .int .i64 0, .int .i64 4] ?_; refine (impl_from.calls a0_0 0 4 true _ A2.out).mono ?_; rintro e w' ⟨rfl, ⟨nd, rfl⟩⟩; refine ⟨_, rfl, ?_⟩) | ((with_reducible refine gate_dst (N := 7) rfl ?_); refine Kd.R_lit Kd.string _ 9 ?hg (N := 7) ?hd (xs := ([(⟨#[100, 111, 110, 101]⟩ : ByteArray), (⟨#[116, 104, 101, 114, 101]⟩ : ByteArray), (⟨#[116, 97, 107, 101, 110]⟩ : ByteArray), (⟨#[110, 111, 110, 101]⟩ : ByteArray), (⟨#[110, 111, 116]⟩ : ByteArray)] : List ByteArray)) (inner := [.string (⟨#[100, 111, 110, 101]⟩ : ByteArray), .string (⟨#[116, 104, 101, 114, 101]⟩ : ByteArray), .string (⟨#[116, 97, 107, 101, 110]⟩ : ByteArray), .string (⟨#[110, 111, 110, 101]⟩ : ByteArray), .string (⟨#[110, 111, 116]⟩ : ByteArray)]) (ok := fun _ => True) (okp := fun _ => True) ?hr ?hp (fun _ hk => hk) trivial (Below.refl _ _) (Nat.le_refl _) (by simp) ?_; (case hd => rfl); (case hg => rfl); (case hr => first | (go_simp; done) | (go_simp; rfl)); (case hp => exact (Reps.one (show Kd.M Kd.string _ _ _ (⟨#[100, 111, 110, 101]⟩ : ByteArray) [.string (⟨#[100, 111, 110, 101]⟩ : ByteArray)] from rfl) (Reps.one (show Kd.M Kd.string _ _ _ (⟨#[116, 104, 101, 114, 101]⟩ : ByteArray) [.string (⟨#[116, 104, 101, 114, 101]⟩ : ByteArray)] from rfl) (Reps.one (show Kd.M Kd.string _ _ _ (⟨#[116, 97, 107, 101, 110]⟩ : ByteArray) [.string (⟨#[116, 97, 107, 101, 110]⟩ : ByteArray)] from rfl) (Reps.one (show Kd.M Kd.string _ _ _ (⟨#[110, 111, 110, 101]⟩ : ByteArray) [.string (⟨#[110, 111, 110, 101]⟩ : ByteArray)] from rfl) (Reps.one (show Kd.M Kd.string _ _ _ (⟨#[110, 111, 116]⟩ : ByteArray) [.string (⟨#[110, 111, 116]⟩ : ByteArray)] from rfl) (Reps.none _ _))))))); intro vz1 wz2 hoz1 hb hg_ hnew_; clear hg_ hnew_; (first | rw [← Ny103.out] at hoz1 | (simp only [Int.reduceToNat] at hoz1; rw [← Ny103.out] at hoz1)); have HOz1 := Aside0.mk (Kd.R_lower hoz1 (below_size (hX HB.out))); replace BKz1 := Aside0.mk (blk_below (bX BKz1.out) hb); replace HB := Aside0.mk (below_step (hX HB.out) hb); clear hb hoz1; obtain ⟨hczz3, hczz4, hfzz3, hfzz4⟩ := cZ2 BKz1.out; obtain ⟨Aoz1, coz1, eoz1⟩ := Kd.R_slice HOz1.out; subst eoz1; have pz1 : 0 ≤ (a0_0 : Int) := of_decide_eq_true (by first | (with_reducible assumption) | assumption); have qz1 : a0_0 < (y103.length : Int) := of_decide_eq_true (by first | (with_reducible assumption) | assumption); obtain ⟨adz1, ez1, hxz1⟩ := Kd.at_string (Kd.R_reads' HOz1.out).2.2 a0_0 pz1 qz1; cases ez1; replace pz1 := eq_true pz1; replace qz1 := eq_true qz1; refine Stop.out ?_))
    refine ⟨?_⟩
    by_cases c6 : (l0_1.length : Int) > 0
    · rw [if_pos c6] at H
      have c6b0 := decide_eq_true c6
      have c6b1 : decide (0 < l0_1.length) = true := decide_eq_true (by omega)
      clear c6
      replace H := bE H; obtain ⟨t107, A7, H⟩ := H
      replace H := ifP H; obtain ⟨c8, H⟩ := H
      have c8b0 := eq_true c8
      have c8b1 := decide_eq_true c8
      try have c8b2 : (9223372036854775807 < 1 + t107.size) = False := eq_false (Nat.not_lt.2 c8)
      replace H := ifP H; obtain ⟨c9, H⟩ := H
      have c9b0 := eq_true c9
      have c9b1 := decide_eq_true c9
      try have c9b2 : (9223372036854775807 < (rdOf ByteArray.empty y103 a0_0).size + ((⟨#[32]⟩ : ByteArray) ++ t107).size) = False := eq_false (Nat.not_lt.2 c9)
      (try (have c9b3 : (rdOf ByteArray.empty y103 a0_0).size + (1 + t107.size) ≤ 9223372036854775807 := (by have h_ := c9; simp only [ByteArray.size_append, strOfNums_size] at h_; exact h_); have c9b4 := eq_true c9b3; (try have c9b5 := decide_eq_true c9b3); (try have c9b6 := eq_false (Nat.not_lt.2 c9b3))))
      obtain rfl := Option.some.inj H
      go_wp2_with (first | (refine goesM 119 19 Tryz.func119 #[.slice A0_1 l0_1.length c0_1] ?_; refine (impl_NumsText.calls k _ _ l0_1 t107 _ (cC HR0_1.out HB.out) HC0_1.out A7.out).mono ?_; rintro e wz3 ⟨rfl, hb⟩; refine ⟨_, rfl, ?_⟩; replace HOz1 := Aside0.mk (Kd.R_below (rX HOz1.out) hb); replace BKz1 := Aside0.mk (blk_below (bX BKz1.out) hb); replace HB := Aside0.mk (below_step (hX HB.out) hb); clear hb))
      go_ret
      exact ⟨rE, (hX HB.out)⟩
    · rw [if_neg c6] at H
      have c6b0 := decide_eq_false c6
      have c6b1 : decide (0 < l0_1.length) = false := decide_eq_false (by omega)
      clear c6
      obtain rfl := Option.some.inj H
      go_wp2
      go_ret
      exact ⟨rE, (hX HB.out)⟩
  · replace c3 := Bool.eq_false_iff.mpr c3
    subst c3
    rw [if_neg nft] at H
    go_wp2_with (first | (refine goesM 102 6 Tryz.func102 #[.int .i64 a0_0, .int .i64 0, .int .i64 4] ?_; refine (impl_from.calls a0_0 0 4 false _ A2.out).mono ?_; rintro e w' ⟨rfl, ⟨nd, rfl⟩⟩; refine ⟨_, rfl, ?_⟩; refine Stop.out ?_))
    refine ⟨?_⟩
    by_cases c23 : (l0_1.length : Int) > 0
    · rw [if_pos c23] at H
      have c23b0 := decide_eq_true c23
      have c23b1 : decide (0 < l0_1.length) = true := decide_eq_true (by omega)
      clear c23
      replace H := bE H; obtain ⟨t108, A24, H⟩ := H
      replace H := ifP H; obtain ⟨c25, H⟩ := H
      have c25b0 := eq_true c25
      have c25b1 := decide_eq_true c25
      try have c25b2 : (9223372036854775807 < 1 + t108.size) = False := eq_false (Nat.not_lt.2 c25)
      replace H := ifP H; obtain ⟨c26, H⟩ := H
      have c26b0 := eq_true c26
      have c26b1 := decide_eq_true c26
      try have c26b2 : (9223372036854775807 < 4 + ((⟨#[32]⟩ : ByteArray) ++ t108).size) = False := eq_false (Nat.not_lt.2 c26)
      (try (have c26b3 : 4 + (1 + t108.size) ≤ 9223372036854775807 := (by have h_ := c26; simp only [ByteArray.size_append, strOfNums_size] at h_; exact h_); have c26b4 := eq_true c26b3; (try have c26b5 := decide_eq_true c26b3); (try have c26b6 := eq_false (Nat.not_lt.2 c26b3))))
      obtain rfl := Option.some.inj H
      go_wp2_with (first | (refine goesM 119 19 Tryz.func119 #[.slice A0_1 l0_1.length c0_1] ?_; refine (impl_NumsText.calls k _ _ l0_1 t108 _ (cC HR0_1.out HB.out) HC0_1.out A24.out).mono ?_; rintro e wz2 ⟨rfl, hb⟩; refine ⟨_, rfl, ?_⟩; replace BKz1 := Aside0.mk (blk_below (bX BKz1.out) hb); replace HB := Aside0.mk (below_step (hX HB.out) hb); clear hb))
      go_ret
      exact ⟨rE, (hX HB.out)⟩
    · rw [if_neg c23] at H
      have c23b0 := decide_eq_false c23
      have c23b1 : decide (0 < l0_1.length) = false := decide_eq_false (by omega)
      clear c23
      obtain rfl := Option.some.inj H
      go_wp2
      go_ret
      exact ⟨rE, (hX HB.out)⟩
end Go.Proofs.YtmljebgideecjaaGreat.P
namespace Go.Proofs.YtmljebgideecjaaGreat.P
open Go.Proofs.YtmljebgideecjaaGreatZ Go.RowKit Go.Proofs.YtmljebgideecjaaGreatW.PrintWords Go.Proofs.YtmljebgideecjaaGreatW.PrintLast Go.Proofs.YtmljebgideecjaaGreatW.PrintMore
attribute [local go_sem] max2_int min2_int max_two min_two max_three min_three max_four min_four   -- for this text's walks alone
set_option linter.unusedVariables false
set_option linter.unusedSimpArgs false
def impl_CallText.f (k : Nat) (a0_0 : Int) (a0_1 : Int) (a0_2 : Int) (a0_3 : Int) (a0_4 : Int) (a0_5 : Int) (a0_6 : Int) (a0_7 : Int) (l0_8 : List Int) : Option (ByteArray) := (impl_Digits.f k a0_0).bind fun t102 => (if t102.size + 1 ≤ 9223372036854775807 then ((impl_OpText.f k a0_1 a0_2 a0_3).bind fun t103 => (if (t102 ++ (⟨#[32]⟩ : ByteArray)).size + t103.size ≤ 9223372036854775807 then (if ((t102 ++ (⟨#[32]⟩ : ByteArray)) ++ t103).size + 2 ≤ 9223372036854775807 then (if a0_6 < 0 then (if (((t102 ++ (⟨#[32]⟩ : ByteArray)) ++ t103) ++ (⟨#[58, 32]⟩ : ByteArray)).size + 4 ≤ 9223372036854775807 then (some ((((t102 ++ (⟨#[32]⟩ : ByteArray)) ++ t103) ++ (⟨#[58, 32]⟩ : ByteArray)) ++ (⟨#[111, 112, 101, 110]⟩ : ByteArray))) else (none)) else ((impl_ResText.f k a0_7 l0_8).bind fun t104 => (if (((t102 ++ (⟨#[32]⟩ : ByteArray)) ++ t103) ++ (⟨#[58, 32]⟩ : ByteArray)).size + t104.size ≤ 9223372036854775807 then (some ((((t102 ++ (⟨#[32]⟩ : ByteArray)) ++ t103) ++ (⟨#[58, 32]⟩ : ByteArray)) ++ t104)) else (none)))) else (none)) else (none))) else (none))
def impl_CallText.T1 : Bool × List (List Nat × List Nat) := (true, [([], []), ([0], [0]), ([1], [1]), ([2], [2]), ([], []), ([4], [4]), ([5, 2], [5]), ([3, 6], [3, 6]), ([7], [7]), ([8, 6, 0, 1, 2, 3, 4, 5, 6, 7, 8], [8])])
def impl_CallText.B1 : List Nat := [0, 1, 3, 7, 0, 16, 55, 127, 255, 511]
theorem impl_CallText.tab1 : rtab .any (opsOf Tryz.f61 1) = impl_CallText.T1 := by kernel_rfl
theorem impl_CallText.bits1 : waitsOk impl_CallText.T1.2 impl_CallText.B1 = true := by kernel_rfl
set_option maxHeartbeats 8000000 in
set_option maxRecDepth 100000 in
theorem impl_CallText.calls (k : Nat) (a0_0 : Int) (a0_1 : Int) (a0_2 : Int) (a0_3 : Int) (a0_4 : Int) (a0_5 : Int) (a0_6 : Int) (a0_7 : Int) (A0_8 : Option Addr) (c0_8 : Nat) (l0_8 : List Int) (r : ByteArray) (w : World) (hr0_8 : Kd.C (Kd.int .i64) w A0_8 l0_8.length l0_8) (hc0_8 : l0_8.length ≤ c0_8) (h : impl_CallText.f k a0_0 a0_1 a0_2 a0_3 a0_4 a0_5 a0_6 a0_7 l0_8 = some r) :
    Calls Tryz.prog 61 #[.agg #[.int .i64 a0_0, .int .i64 a0_1, .int .i64 a0_2, .int .i64 a0_3, .int .i64 a0_4, .int .i64 a0_5, .int .i64 a0_6, .int .i64 a0_7, .slice A0_8 l0_8.length c0_8]] w fun e w' => e = .returned (.string r) ∧ Below w.heap.size w w' := by
  have hu73 := Tryz.underlying73
  have hu69 := Tryz.underlying69
  have hu71 := Tryz.underlying71
  have HR0_8 := Aside0.mk hr0_8
  have HC0_8 := Aside0.mk hc0_8
  clear hr0_8 hc0_8
  have HB := Aside0.mk (Below.refl w.heap.size w)
  have H := h
  unfold impl_CallText.f at H
  clear h
  replace H := bE H; obtain ⟨t102, A2, H⟩ := H
  replace H := ifP H; obtain ⟨c3, H⟩ := H
  have c3b0 := eq_true c3
  have c3b1 := decide_eq_true c3
  try have c3b2 : (9223372036854775807 < t102.size + 1) = False := eq_false (Nat.not_lt.2 c3)
  replace H := bE H; obtain ⟨t103, A4, H⟩ := H
  replace H := ifP H; obtain ⟨c5, H⟩ := H
  have c5b0 := eq_true c5
  have c5b1 := decide_eq_true c5
  try have c5b2 : (9223372036854775807 < (t102 ++ (⟨#[32]⟩ : ByteArray)).size + t103.size) = False := eq_false (Nat.not_lt.2 c5)
  (try (have c5b3 : t102.size + 1 + t103.size ≤ 9223372036854775807 := (by have h_ := c5; simp only [ByteArray.size_append, strOfNums_size] at h_; exact h_); have c5b4 := eq_true c5b3; (try have c5b5 := decide_eq_true c5b3); (try have c5b6 := eq_false (Nat.not_lt.2 c5b3))))
  replace H := ifP H; obtain ⟨c6, H⟩ := H
  have c6b0 := eq_true c6
  have c6b1 := decide_eq_true c6
  try have c6b2 : (9223372036854775807 < ((t102 ++ (⟨#[32]⟩ : ByteArray)) ++ t103).size + 2) = False := eq_false (Nat.not_lt.2 c6)
  (try (have c6b3 : t102.size + 1 + t103.size + 2 ≤ 9223372036854775807 := (by have h_ := c6; simp only [ByteArray.size_append, strOfNums_size] at h_; exact h_); have c6b4 := eq_true c6b3; (try have c6b5 := decide_eq_true c6b3); (try have c6b6 := eq_false (Nat.not_lt.2 c6b3))))
  go_enter Tryz.func61, Tryz.ntmps61
  go_wp2_with (first | (refine boxE 1 #[.int .i64 a0_0, .int .i64 a0_1, .int .i64 a0_2, .int .i64 a0_3, .int .i64 a0_4, .int .i64 a0_5, .int .i64 a0_6, .int .i64 a0_7, .slice A0_8 l0_8.length c0_8] 73 ?_; intro gbz1 hg wz1 hbox hb; have BKz1 := Aside0.mk (hbox); have GWz1 := Aside0.mk (gX' hg (hX HB.out)); have GEz1 := Aside0.mk (gX' hg (hX HB.out)); replace HB := Aside0.mk (below_step (hX HB.out) hb); clear hb hbox hg; refine Stop.out ?_))
  refine ⟨?_⟩
  by_cases c7 : a0_6 < 0
  · rw [if_pos c7] at H
    have c7b0 := decide_eq_true c7
    clear c7
    replace H := ifP H; obtain ⟨c8, H⟩ := H
    have c8b0 := eq_true c8
    have c8b1 := decide_eq_true c8
    try have c8b2 : (9223372036854775807 < (((t102 ++ (⟨#[32]⟩ : ByteArray)) ++ t103) ++ (⟨#[58, 32]⟩ : ByteArray)).size + 4) = False := eq_false (Nat.not_lt.2 c8)
    (try (have c8b3 : t102.size + 1 + t103.size + 2 + 4 ≤ 9223372036854775807 := (by have h_ := c8; simp only [ByteArray.size_append, strOfNums_size] at h_; exact h_); have c8b4 := eq_true c8b3; (try have c8b5 := decide_eq_true c8b3); (try have c8b6 := eq_false (Nat.not_lt.2 c8b3))))
    obtain rfl := Option.some.inj H
    try go_wp2
    replace BKz1 := Aside0.mk (blk_drew BKz1.out)
    replace HB := Aside0.mk (below_drew1 HB.out)
    refine start_ (n := 10) (S := fun w' => w'.cell? ⟨gbz1, 0, none⟩ = some (.int .i64 a0_0) ∧ w'.cell? ⟨gbz1, 1, none⟩ = some (.int .i64 a0_1) ∧ w'.cell? ⟨gbz1, 2, none⟩ = some (.int .i64 a0_2) ∧ w'.cell? ⟨gbz1, 3, none⟩ = some (.int .i64 a0_3) ∧ w'.cell? ⟨gbz1, 4, none⟩ = some (.int .i64 a0_4) ∧ w'.cell? ⟨gbz1, 5, none⟩ = some (.int .i64 a0_5) ∧ w'.cell? ⟨gbz1, 6, none⟩ = some (.int .i64 a0_6) ∧ w'.cell? ⟨gbz1, 7, none⟩ = some (.int .i64 a0_7) ∧ w'.cell? ⟨gbz1, 8, none⟩ = some (.slice A0_8 l0_8.length c0_8)) (ds := []) (bm 10 0) (by kernel_rfl) rfl (by kernel_rfl) ⟨cK BKz1.out 0, cK BKz1.out 1, cK BKz1.out 2, cK BKz1.out 3, cK BKz1.out 4, cK BKz1.out 5, cK BKz1.out 6, cK BKz1.out 7, cK BKz1.out 8⟩ (fun hHeld => ?_); refine with_tabW impl_CallText.tab1 impl_CallText.bits1 (fun HT_ HW_ => ?_)
    generalize wz1.drew = wz2 at BKz1 HB hHeld ⊢
    refine pZ 0 4 (bm 10 1) HT_.out ?_
    refine pZ 4 8 (bm 10 17) HT_.out ?_
    refine tZ 1 5 (bm 10 19) HT_.out HW_.out hHeld ?_
    refine tZ 5 9 (bm 10 51) HT_.out HW_.out hHeld ?_
    refine oZ 2 (some 6) (bm 10 55) HT_.out (fun K hK => ?_)
    refine goesN Tryz.func120 #[.int .i64 a0_0] ?_
    with_reducible refine (impl_Digits.calls k a0_0 t102 _ A2.out).mono ?_
    rintro e w' ⟨rfl, ⟨nd, rfl⟩⟩
    refine ⟨_, rfl, ?_⟩
    refine hK.out _ _ ⟨cK BKz1.out 0, cK BKz1.out 1, cK BKz1.out 2, cK BKz1.out 3, cK BKz1.out 4, cK BKz1.out 5, cK BKz1.out 6, cK BKz1.out 7, cK BKz1.out 8⟩ (fun hHeld => ?_)
    clear hK K
    refine nZ 6 ?_
    refine pZ 3 7 (bm 10 63) HT_.out ?_
    refine oZ 6 (some 10) (bm 10 127) HT_.out (fun K hK => ?_)
    refine goesN Tryz.func124 #[.agg #[.int .i64 a0_1, .int .i64 a0_2, .int .i64 a0_3]] ?_
    with_reducible refine (impl_OpText.calls k a0_1 a0_2 a0_3 t103 _ A4.out).mono ?_
    rintro e wz3 ⟨rfl, hb⟩
    refine ⟨_, rfl, ?_⟩
    replace BKz1 := Aside0.mk (blk_below (bX BKz1.out) hb)
    replace HB := Aside0.mk (below_step (hX HB.out) hb)
    (try clear hb)
    (try clear hb2)
    (try clear hk)
    (try clear hi)
    refine hK.out _ _ ⟨cK BKz1.out 0, cK BKz1.out 1, cK BKz1.out 2, cK BKz1.out 3, cK BKz1.out 4, cK BKz1.out 5, cK BKz1.out 6, cK BKz1.out 7, cK BKz1.out 8⟩ (fun hHeld => ?_)
    clear hK K
    refine nZ 10 ?_
    refine pZ 7 11 (bm 10 255) HT_.out ?_
    refine pZ 8 12 (bm 10 511) HT_.out ?_
    refine pZ 9 3 (bm 10 1023) HT_.out ?_
    refine done_ (done_of HT_.out (by kernel_rfl)) ?_
    obtain ⟨hczz1, hczz2, hczz3, hczz4, hczz5, hczz6, hczz7, hczz8, hczz9, hfzz1, hfzz2, hfzz3, hfzz4, hfzz5, hfzz6, hfzz7, hfzz8, hfzz9⟩ := cZ9 BKz1.out
    try go_wp2
    go_ret
    exact ⟨rE, (hX HB.out)⟩
  · rw [if_neg c7] at H
    have c7b0 := decide_eq_false c7
    clear c7
    replace H := bE H; obtain ⟨t104, A13, H⟩ := H
    replace H := ifP H; obtain ⟨c14, H⟩ := H
    have c14b0 := eq_true c14
    have c14b1 := decide_eq_true c14
    try have c14b2 : (9223372036854775807 < (((t102 ++ (⟨#[32]⟩ : ByteArray)) ++ t103) ++ (⟨#[58, 32]⟩ : ByteArray)).size + t104.size) = False := eq_false (Nat.not_lt.2 c14)
    (try (have c14b3 : t102.size + 1 + t103.size + 2 + t104.size ≤ 9223372036854775807 := (by have h_ := c14; simp only [ByteArray.size_append, strOfNums_size] at h_; exact h_); have c14b4 := eq_true c14b3; (try have c14b5 := decide_eq_true c14b3); (try have c14b6 := eq_false (Nat.not_lt.2 c14b3))))
    obtain rfl := Option.some.inj H
    try go_wp2
    replace BKz1 := Aside0.mk (blk_drew BKz1.out)
    replace HB := Aside0.mk (below_drew1 HB.out)
    refine start_ (n := 10) (S := fun w' => w'.cell? ⟨gbz1, 0, none⟩ = some (.int .i64 a0_0) ∧ w'.cell? ⟨gbz1, 1, none⟩ = some (.int .i64 a0_1) ∧ w'.cell? ⟨gbz1, 2, none⟩ = some (.int .i64 a0_2) ∧ w'.cell? ⟨gbz1, 3, none⟩ = some (.int .i64 a0_3) ∧ w'.cell? ⟨gbz1, 4, none⟩ = some (.int .i64 a0_4) ∧ w'.cell? ⟨gbz1, 5, none⟩ = some (.int .i64 a0_5) ∧ w'.cell? ⟨gbz1, 6, none⟩ = some (.int .i64 a0_6) ∧ w'.cell? ⟨gbz1, 7, none⟩ = some (.int .i64 a0_7) ∧ w'.cell? ⟨gbz1, 8, none⟩ = some (.slice A0_8 l0_8.length c0_8)) (ds := []) (bm 10 0) (by kernel_rfl) rfl (by kernel_rfl) ⟨cK BKz1.out 0, cK BKz1.out 1, cK BKz1.out 2, cK BKz1.out 3, cK BKz1.out 4, cK BKz1.out 5, cK BKz1.out 6, cK BKz1.out 7, cK BKz1.out 8⟩ (fun hHeld => ?_); refine with_tabW impl_CallText.tab1 impl_CallText.bits1 (fun HT_ HW_ => ?_)
    generalize wz1.drew = wz2 at BKz1 HB hHeld ⊢
    refine pZ 0 4 (bm 10 1) HT_.out ?_
    refine pZ 4 8 (bm 10 17) HT_.out ?_
    refine tZ 1 5 (bm 10 19) HT_.out HW_.out hHeld ?_
    refine tZ 5 9 (bm 10 51) HT_.out HW_.out hHeld ?_
    refine oZ 2 (some 6) (bm 10 55) HT_.out (fun K hK => ?_)
    refine goesN Tryz.func120 #[.int .i64 a0_0] ?_
    with_reducible refine (impl_Digits.calls k a0_0 t102 _ A2.out).mono ?_
    rintro e w' ⟨rfl, ⟨nd, rfl⟩⟩
    refine ⟨_, rfl, ?_⟩
    refine hK.out _ _ ⟨cK BKz1.out 0, cK BKz1.out 1, cK BKz1.out 2, cK BKz1.out 3, cK BKz1.out 4, cK BKz1.out 5, cK BKz1.out 6, cK BKz1.out 7, cK BKz1.out 8⟩ (fun hHeld => ?_)
    clear hK K
    refine nZ 6 ?_
    refine pZ 3 7 (bm 10 63) HT_.out ?_
    refine oZ 6 (some 10) (bm 10 127) HT_.out (fun K hK => ?_)
    refine goesN Tryz.func124 #[.agg #[.int .i64 a0_1, .int .i64 a0_2, .int .i64 a0_3]] ?_
    with_reducible refine (impl_OpText.calls k a0_1 a0_2 a0_3 t103 _ A4.out).mono ?_
    rintro e wz3 ⟨rfl, hb⟩
    refine ⟨_, rfl, ?_⟩
    replace BKz1 := Aside0.mk (blk_below (bX BKz1.out) hb)
    replace HB := Aside0.mk (below_step (hX HB.out) hb)
    (try clear hb)
    (try clear hb2)
    (try clear hk)
    (try clear hi)
    refine hK.out _ _ ⟨cK BKz1.out 0, cK BKz1.out 1, cK BKz1.out 2, cK BKz1.out 3, cK BKz1.out 4, cK BKz1.out 5, cK BKz1.out 6, cK BKz1.out 7, cK BKz1.out 8⟩ (fun hHeld => ?_)
    clear hK K
    refine nZ 10 ?_
    refine pZ 7 11 (bm 10 255) HT_.out ?_
    refine pZ 8 12 (bm 10 511) HT_.out ?_
    refine pZ 9 3 (bm 10 1023) HT_.out ?_
    refine done_ (done_of HT_.out (by kernel_rfl)) ?_
    obtain ⟨hczz1, hczz2, hczz3, hczz4, hczz5, hczz6, hczz7, hczz8, hczz9, hfzz1, hfzz2, hfzz3, hfzz4, hfzz5, hfzz6, hfzz7, hfzz8, hfzz9⟩ := cZ9 BKz1.out
    try go_wp2_with (first | (refine goesM 125 21 Tryz.func125 #[.agg #[.int .i64 a0_7, .slice A0_8 l0_8.length c0_8]] ?_; refine (impl_ResText.calls k a0_7 _ _ l0_8 t104 _ (cC HR0_8.out HB.out) HC0_8.out A13.out).mono ?_; rintro e wz4 ⟨rfl, hb⟩; refine ⟨_, rfl, ?_⟩; replace BKz1 := Aside0.mk (blk_below (bX BKz1.out) hb); replace HB := Aside0.mk (below_step (hX HB.out) hb); clear hb))
    go_ret
    exact ⟨rE, (hX HB.out)⟩
end Go.Proofs.YtmljebgideecjaaGreat.P
namespace Go.Proofs.YtmljebgideecjaaGreat.P
open Go.Proofs.YtmljebgideecjaaGreatZ Go.RowKit Go.Proofs.YtmljebgideecjaaGreatW.PrintWords Go.Proofs.YtmljebgideecjaaGreatW.PrintLast Go.Proofs.YtmljebgideecjaaGreatW.PrintMore
attribute [local go_sem] max2_int min2_int max_two min_two max_three min_three max_four min_four   -- for this text's walks alone
set_option linter.unusedVariables false
set_option linter.unusedSimpArgs false
def impl_MachineText.l0 : Nat → ByteArray → List (S73) → Int → Int → Option (ByteArray)
  | 0, _, _, _, _ => none
  | k + 1, x3, x17, x18, x19 => if x19 < x18 then (if 0 ≤ x19 then (if x19 < (x17.length : Int) then ((impl_CallText.f k ((rd_T73 x17 x19).f0) ((rd_T73 x17 x19).f1.f0) ((rd_T73 x17 x19).f1.f1) ((rd_T73 x17 x19).f1.f2) ((rd_T73 x17 x19).f2) ((rd_T73 x17 x19).f3) ((rd_T73 x17 x19).f4) ((rd_T73 x17 x19).f5.f0) ((rd_T73 x17 x19).f5.f1)).bind fun t112 => (if t112.size + 1 ≤ 9223372036854775807 then (if x3.size + (t112 ++ (⟨#[10]⟩ : ByteArray)).size ≤ 9223372036854775807 then (impl_MachineText.l0 k (x3 ++ (t112 ++ (⟨#[10]⟩ : ByteArray))) x17 x18 (wrap64 (x19 + 1))) else (none)) else (none))) else (none)) else (none)) else (some x3)
def impl_MachineText.f (k : Nat) (l0_0 : List (S140)) (l0_1 : List (S162)) (l0_2 : List (S97)) (a0_3 : Int) (l0_4 : List (S73)) (l0_5 : List Int) (l0_6 : List Int) (a0_7 : Int) : Option (ByteArray) := (impl_Meaning.f k l0_0 l0_1).bind fun t102 => ((impl_RowsIn.f t102).bind fun bt105 => ((impl_RowsText.f k bt105.1 bt105.2).bind fun t109 => (if t109.size + 1 ≤ 9223372036854775807 then (impl_MachineText.l0 k (t109 ++ (⟨#[10]⟩ : ByteArray)) l0_4 (l0_4.length : Int) 0) else (none))))
set_option maxHeartbeats 8000000 in
set_option maxRecDepth 100000 in
theorem impl_MachineText.calls (k : Nat) (A0_0 : Option Addr) (c0_0 : Nat) (l0_0 : List (S140)) (A0_1 : Option Addr) (c0_1 : Nat) (l0_1 : List (S162)) (A0_2 : Option Addr) (c0_2 : Nat) (l0_2 : List (S97)) (a0_3 : Int) (A0_4 : Option Addr) (c0_4 : Nat) (l0_4 : List (S73)) (A0_5 : Option Addr) (c0_5 : Nat) (l0_5 : List Int) (A0_6 : Option Addr) (c0_6 : Nat) (l0_6 : List Int) (a0_7 : Int) (r : ByteArray) (w : World) (hr0_0 : Kd.C k140 w A0_0 l0_0.length l0_0) (hc0_0 : l0_0.length ≤ c0_0) (hr0_1 : Kd.C k162 w A0_1 l0_1.length l0_1) (hc0_1 : l0_1.length ≤ c0_1) (hr0_2 : Kd.C k97 w A0_2 l0_2.length l0_2) (hc0_2 : l0_2.length ≤ c0_2) (hr0_4 : Kd.C k73 w A0_4 l0_4.length l0_4) (hc0_4 : l0_4.length ≤ c0_4) (hr0_5 : Kd.C (Kd.int .i64) w A0_5 l0_5.length l0_5) (hc0_5 : l0_5.length ≤ c0_5) (hr0_6 : Kd.C (Kd.int .i64) w A0_6 l0_6.length l0_6) (hc0_6 : l0_6.length ≤ c0_6) (h : impl_MachineText.f k l0_0 l0_1 l0_2 a0_3 l0_4 l0_5 l0_6 a0_7 = some r) :
    Calls Tryz.prog 16 #[.agg #[.slice A0_0 l0_0.length c0_0, .slice A0_1 l0_1.length c0_1, .slice A0_2 l0_2.length c0_2, .int .i64 a0_3, .slice A0_4 l0_4.length c0_4, .slice A0_5 l0_5.length c0_5, .slice A0_6 l0_6.length c0_6, .int .i64 a0_7]] w fun e w' => e = .returned (.string r) ∧ Below w.heap.size w w' := by
  have hu43 := Tryz.underlying43
  have hu73 := Tryz.underlying73
  have HR0_0 := Aside0.mk hr0_0
  have HC0_0 := Aside0.mk hc0_0
  clear hr0_0 hc0_0
  have HR0_1 := Aside0.mk hr0_1
  have HC0_1 := Aside0.mk hc0_1
  clear hr0_1 hc0_1
  have HR0_2 := Aside0.mk hr0_2
  have HC0_2 := Aside0.mk hc0_2
  clear hr0_2 hc0_2
  have HR0_4 := Aside0.mk hr0_4
  have HC0_4 := Aside0.mk hc0_4
  clear hr0_4 hc0_4
  have HR0_5 := Aside0.mk hr0_5
  have HC0_5 := Aside0.mk hc0_5
  clear hr0_5 hc0_5
  have HR0_6 := Aside0.mk hr0_6
  have HC0_6 := Aside0.mk hc0_6
  clear hr0_6 hc0_6
  have HB := Aside0.mk (Below.refl w.heap.size w)
  have H := h
  unfold impl_MachineText.f at H
  clear h
  replace H := bE H; obtain ⟨t102, A2, H⟩ := H
  replace H := bE H; obtain ⟨⟨t105, t108⟩, A3, H⟩ := H
  try dsimp only at H
  replace H := bE H; obtain ⟨t109, A4, H⟩ := H
  replace H := ifP H; obtain ⟨c5, H⟩ := H
  have c5b0 := eq_true c5
  have c5b1 := decide_eq_true c5
  try have c5b2 : (9223372036854775807 < t109.size + 1) = False := eq_false (Nat.not_lt.2 c5)
  have H' := Aside0.mk H
  clear H
  go_enter Tryz.func16, Tryz.ntmps16
  go_wp2_with (first | (refine boxE 1 #[.slice A0_0 l0_0.length c0_0, .slice A0_1 l0_1.length c0_1, .slice A0_2 l0_2.length c0_2, .int .i64 a0_3, .slice A0_4 l0_4.length c0_4, .slice A0_5 l0_5.length c0_5, .slice A0_6 l0_6.length c0_6, .int .i64 a0_7] 43 ?_; intro gbz1 hg wz1 hbox hb; have BKz1 := Aside0.mk (hbox); have GWz1 := Aside0.mk (gX' hg (hX HB.out)); have GEz1 := Aside0.mk (gX' hg (hX HB.out)); replace HB := Aside0.mk (below_step (hX HB.out) hb); clear hb hbox hg; obtain ⟨hczz1, hczz2, hczz3, hczz4, hczz5, hczz6, hczz7, hczz8, hfzz1, hfzz2, hfzz3, hfzz4, hfzz5, hfzz6, hfzz7, hfzz8⟩ := cZ8 BKz1.out) | (refine goesM 60 12 Tryz.func60 #[.slice A0_0 l0_0.length c0_0, .slice A0_1 l0_1.length c0_1] ?_; refine (impl_Meaning.calls k _ _ l0_0 _ _ l0_1 t102 _ (cC HR0_0.out HB.out) HC0_0.out (cC HR0_1.out HB.out) HC0_1.out A2.out).mono ?_; rintro e wz2 ⟨vz1, rfl, hoz1, hb⟩; refine ⟨_, rfl, ?_⟩; have HOz1 := Aside0.mk (Kd.R_lower hoz1 (below_size (hX HB.out))); replace BKz1 := Aside0.mk (blk_below (bX BKz1.out) hb); replace HB := Aside0.mk (below_step (hX HB.out) hb); clear hb hoz1; obtain ⟨Aoz1, coz1, eoz1⟩ := Kd.R_slice HOz1.out; subst eoz1) | (refine goesM 59 13 Tryz.func59 #[.slice Aoz1 t102.length coz1] ?_; refine (impl_RowsIn.calls _ _ t102 t105 t108 _ (cX (Kd.R_reads' HOz1.out).2.2) ((Kd.R_reads' HOz1.out).2.1) A3.out).mono ?_; rintro e wz3 ⟨vz2, rfl, hoz1, hb⟩; refine ⟨_, rfl, ?_⟩; have HOz2 := Aside0.mk (Kd.R_lower (Kd.R_new' hoz1 (Kd.R_lt (rX HOz1.out))) (below_size (hX HB.out))); replace HOz1 := Aside0.mk (Kd.R_elder' (rX HOz1.out) (Kd.R_base hoz1) hb); replace BKz1 := Aside0.mk (blk_below (bX BKz1.out) hb); replace HB := Aside0.mk (below_step (hX HB.out) hb); clear hb hoz1; obtain ⟨Aoz2, coz2, eoz2⟩ := Kd.R_slice HOz2.out; subst eoz2) | (refine goesM 58 14 Tryz.func58 #[.agg #[.slice Aoz2 t105.length coz2, .int .i64 t108]] ?_; refine (impl_RowsText.calls k _ _ t105 t108 t109 _ (cX (Kd.R_reads' HOz2.out).2.2) ((Kd.R_reads' HOz2.out).2.1) A4.out).mono ?_; rintro e wz4 ⟨rfl, hb⟩; refine ⟨_, rfl, ?_⟩; replace HOz1 := Aside0.mk (Kd.R_below (rX HOz1.out) hb); replace HOz2 := Aside0.mk (Kd.R_below (rX HOz2.out) hb); replace BKz1 := Aside0.mk (blk_below (bX BKz1.out) hb); replace HB := Aside0.mk (below_step (hX HB.out) hb); clear hb; obtain ⟨hczz9, hczz10, hczz11, hczz12, hczz13, hczz14, hczz15, hczz16, hfzz9, hfzz10, hfzz11, hfzz12, hfzz13, hfzz14, hfzz15, hfzz16⟩ := cZ8 BKz1.out))
  go_loopg [3, 19] k (fun kq v3 v19 w' => ∃ (x3_1 : ByteArray) (x19_1 : Int), v3 = .string x3_1 ∧ v19 = .int .i64 x19_1 ∧ Aside0 (impl_MachineText.l0 kq x3_1 l0_4 (l0_4.length : Int) x19_1 = some r) ∧ Aside0 (kq ≤ k) ∧ Aside0 (w'.heap[gbz1]? = some (.cells #[(.slice A0_0 l0_0.length c0_0), (.slice A0_1 l0_1.length c0_1), (.slice A0_2 l0_2.length c0_2), .int .i64 a0_3, (.slice A0_4 l0_4.length c0_4), (.slice A0_5 l0_5.length c0_5), (.slice A0_6 l0_6.length c0_6), .int .i64 a0_7] 43 (0, 0))) ∧ Aside0 (Below w.heap.size w w'))
  case atStart => exact ⟨(t109 ++ (⟨#[10]⟩ : ByteArray)), (0), rS, rS, H', ⟨Nat.le_refl _⟩, ⟨(bX BKz1.out)⟩, ⟨(hX HB.out)⟩⟩
  case round =>
    clear H'
    try clear c1
    try clear p2
    try clear c5
    try clear c5b0
    try clear c5b1
    try clear c5b2
    try clear c6
    try clear hczz9
    try clear hczz10
    try clear hczz11
    try clear hczz12
    try clear hczz13
    try clear hczz14
    try clear hczz15
    try clear hczz16
    try clear hczz1
    try clear hczz2
    try clear hczz3
    try clear hczz4
    try clear hczz5
    try clear hczz6
    try clear hczz7
    try clear hczz8
    try clear hfzz9
    try clear hfzz10
    try clear hfzz11
    try clear hfzz12
    try clear hfzz13
    try clear hfzz14
    try clear hfzz15
    try clear hfzz16
    try clear hfzz1
    try clear hfzz2
    try clear hfzz3
    try clear hfzz4
    try clear hfzz5
    try clear hfzz6
    try clear hfzz7
    try clear hfzz8
    obtain ⟨x3_1, x19_1, rfl, rfl, HA, HKy1, BKz1, HB⟩ := hrel
    cases gk with
    | zero => exact absurd HA.out (by simp [impl_MachineText.l0])
    | succ k1 =>
      have H := HA.out
      clear HA
      simp only [impl_MachineText.l0] at H
      by_cases c14 : x19_1 < (l0_4.length : Int)
      · rw [if_pos c14] at H
        have c14b0 := decide_eq_true c14
        clear c14
        replace H := ifP H; obtain ⟨c15, H⟩ := H
        have c15b0 := decide_eq_true c15
        clear c15
        replace H := ifP H; obtain ⟨c16, H⟩ := H
        have c16b0 := decide_eq_true c16
        clear c16
        replace H := bE H; obtain ⟨t112, A17, H⟩ := H
        replace H := ifP H; obtain ⟨c18, H⟩ := H
        have c18b0 := eq_true c18
        have c18b1 := decide_eq_true c18
        try have c18b2 : (9223372036854775807 < t112.size + 1) = False := eq_false (Nat.not_lt.2 c18)
        replace H := ifP H; obtain ⟨c19, H⟩ := H
        have c19b0 := eq_true c19
        have c19b1 := decide_eq_true c19
        try have c19b2 : (9223372036854775807 < x3_1.size + (t112 ++ (⟨#[10]⟩ : ByteArray)).size) = False := eq_false (Nat.not_lt.2 c19)
        (try (have c19b3 : x3_1.size + (t112.size + 1) ≤ 9223372036854775807 := (by have h_ := c19; simp only [ByteArray.size_append, strOfNums_size] at h_; exact h_); have c19b4 := eq_true c19b3; (try have c19b5 := decide_eq_true c19b3); (try have c19b6 := eq_false (Nat.not_lt.2 c19b3))))
        have H' := Aside0.mk H
        clear H
        have px1 : 0 ≤ (x19_1 : Int) := of_decide_eq_true (by first | (with_reducible assumption) | assumption)
        have qx1 : x19_1 < (l0_4.length : Int) := of_decide_eq_true (by first | (with_reducible assumption) | assumption)
        obtain ⟨adx1, Ax1, cx1, ex1, hxx1, hxx2, hxx3, hxx4, hxx5, hxx6, hxx7, hxx8, hxx9, hlx1, hix1⟩ := at_T73 HR0_4.out x19_1 px1 qx1
        cases ex1
        replace hxx1 := (HB.out.cell (World.block_lt_of_cell? w _ hxx1)).trans hxx1
        replace hxx2 := (HB.out.cell (World.block_lt_of_cell? w _ hxx2)).trans hxx2
        replace hxx3 := (HB.out.cell (World.block_lt_of_cell? w _ hxx3)).trans hxx3
        replace hxx4 := (HB.out.cell (World.block_lt_of_cell? w _ hxx4)).trans hxx4
        replace hxx5 := (HB.out.cell (World.block_lt_of_cell? w _ hxx5)).trans hxx5
        replace hxx6 := (HB.out.cell (World.block_lt_of_cell? w _ hxx6)).trans hxx6
        replace hxx7 := (HB.out.cell (World.block_lt_of_cell? w _ hxx7)).trans hxx7
        replace hxx8 := (HB.out.cell (World.block_lt_of_cell? w _ hxx8)).trans hxx8
        replace hxx9 := (HB.out.cell (World.block_lt_of_cell? w _ hxx9)).trans hxx9
        have HRx1 := Aside0.mk hix1
        have HCx1 := Aside0.mk hlx1
        clear hix1 hlx1
        replace px1 := eq_true px1
        replace qx1 := eq_true qx1
        go_wp2_with (first | (refine boxE 5 #[.int .i64 0, .int .i64 0, .int .i64 0, .int .i64 0, .int .i64 0, .int .i64 0, .int .i64 0, .int .i64 0, .slice none 0 0] 73 ?_; intro gbx1 hg wx1 hbox hb; have BKx1 := Aside0.mk (hbox); have GWx1 := Aside0.mk (gX' hg (hX HB.out)); have GEx1 := Aside0.mk (gX' hg (hX HB.out)); have NBx1 := Aside0.mk (gL hg (bX BKz1.out)); have NBx2 := Aside0.mk (gG hg (bX BKz1.out)); replace BKz1 := Aside0.mk (blk_below (bX BKz1.out) hb); replace HB := Aside0.mk (below_step (hX HB.out) hb); clear hb hbox hg; have hnbx1 := NBx2.out; have hncx1 := NBx1.out; obtain ⟨hczx1, hczx2, hczx3, hczx4, hczx5, hczx6, hczx7, hczx8, hczx9, hfzx1, hfzx2, hfzx3, hfzx4, hfzx5, hfzx6, hfzx7, hfzx8, hfzx9⟩ := cZ9 BKx1.out) | (refine goesM 61 25 Tryz.func61 #[.agg #[.int .i64 ((rd_T73 l0_4 x19_1).f0), .int .i64 ((rd_T73 l0_4 x19_1).f1.f0), .int .i64 ((rd_T73 l0_4 x19_1).f1.f1), .int .i64 ((rd_T73 l0_4 x19_1).f1.f2), .int .i64 ((rd_T73 l0_4 x19_1).f2), .int .i64 ((rd_T73 l0_4 x19_1).f3), .int .i64 ((rd_T73 l0_4 x19_1).f4), .int .i64 ((rd_T73 l0_4 x19_1).f5.f0), .slice Ax1 ((rd_T73 l0_4 x19_1).f5.f1).length cx1]] ?_; refine (impl_CallText.calls k1 ((rd_T73 l0_4 x19_1).f0) ((rd_T73 l0_4 x19_1).f1.f0) ((rd_T73 l0_4 x19_1).f1.f1) ((rd_T73 l0_4 x19_1).f1.f2) ((rd_T73 l0_4 x19_1).f2) ((rd_T73 l0_4 x19_1).f3) ((rd_T73 l0_4 x19_1).f4) ((rd_T73 l0_4 x19_1).f5.f0) _ _ ((rd_T73 l0_4 x19_1).f5.f1) t112 _ (by exact Kd.C_below HRx1.out (hX HB.out)) HCx1.out A17.out).mono ?_; rintro e wx2 ⟨rfl, hb⟩; refine ⟨_, rfl, ?_⟩; replace BKz1 := Aside0.mk (blk_below (bF BKz1.out) hb); replace BKx1 := Aside0.mk (blk_below (g := gbx1) (o := .cells #[.int .i64 ((rd_T73 l0_4 x19_1).f0), .int .i64 ((rd_T73 l0_4 x19_1).f1.f0), .int .i64 ((rd_T73 l0_4 x19_1).f1.f1), .int .i64 ((rd_T73 l0_4 x19_1).f1.f2), .int .i64 ((rd_T73 l0_4 x19_1).f2), .int .i64 ((rd_T73 l0_4 x19_1).f3), .int .i64 ((rd_T73 l0_4 x19_1).f4), .int .i64 ((rd_T73 l0_4 x19_1).f5.f0), .slice Ax1 ((rd_T73 l0_4 x19_1).f5.f1).length cx1] 73 (0, 0)) (bP BKx1.out) hb); replace HB := Aside0.mk (below_step (hX HB.out) hb); clear hb))
        go_roundg k1
        case measure => have := HKy1.out; omega
        case rel => exact ⟨(x3_1 ++ (t112 ++ (⟨#[10]⟩ : ByteArray))), (wrap64 (x19_1 + 1)), rS, rS, H', ⟨by have := HKy1.out; omega⟩, ⟨(bX BKz1.out)⟩, ⟨(hX HB.out)⟩⟩
      · rw [if_neg c14] at H
        have c14b0 := decide_eq_false c14
        clear c14
        obtain rfl := Option.some.inj H
        go_wp2
        go_ret
        exact ⟨rE, (hX HB.out)⟩
end Go.Proofs.YtmljebgideecjaaGreat.P
namespace Go.Proofs.YtmljebgideecjaaGreat.P
open Go.Proofs.YtmljebgideecjaaGreatZ Go.RowKit Go.Proofs.YtmljebgideecjaaGreatW.PrintWords Go.Proofs.YtmljebgideecjaaGreatW.PrintLast Go.Proofs.YtmljebgideecjaaGreatW.PrintMore
attribute [local go_sem] max2_int min2_int max_two min_two max_three min_three max_four min_four   -- for this text's walks alone
set_option linter.unusedVariables false
set_option linter.unusedSimpArgs false
def laws_FnExactMachineText.f (k : Nat) (l0_0 : List (S176)) (l0_1 : List (S155)) (l0_2 : List (S114)) (a0_3 : Int) (l0_4 : List (S119)) (l0_5 : List Int) (l0_6 : List Int) (a0_7 : Int) : Option (Bool) := (laws_szMachine.f k l0_0 l0_1 l0_2 a0_3 l0_4 l0_5 l0_6 a0_7 1048576).bind fun t102 => (if t102 < 0 then (some true) else ((laws_toMachine.f k l0_0 l0_1 l0_2 a0_3 l0_4 l0_5 l0_6 a0_7).bind fun bt103 => ((spec_MachineText.f k bt103.1 bt103.2.1 bt103.2.2.1 bt103.2.2.2.1 bt103.2.2.2.2.1 bt103.2.2.2.2.2.1 bt103.2.2.2.2.2.2.1 bt103.2.2.2.2.2.2.2).bind fun t123 => ((laws_toMachine.f k l0_0 l0_1 l0_2 a0_3 l0_4 l0_5 l0_6 a0_7).bind fun bt124 => ((impl_MachineText.f k bt124.1 bt124.2.1 bt124.2.2.1 bt124.2.2.2.1 bt124.2.2.2.2.1 bt124.2.2.2.2.2.1 bt124.2.2.2.2.2.2.1 bt124.2.2.2.2.2.2.2).bind fun t145 => (if t145.toList = t123.toList then ((laws_toMachine.f k l0_0 l0_1 l0_2 a0_3 l0_4 l0_5 l0_6 a0_7).bind fun bt146 => ((laws_eqMachine.f k bt124.1 bt124.2.1 bt124.2.2.1 bt124.2.2.2.1 bt124.2.2.2.2.1 bt124.2.2.2.2.2.1 bt124.2.2.2.2.2.2.1 bt124.2.2.2.2.2.2.2 bt146.1 bt146.2.1 bt146.2.2.1 bt146.2.2.2.1 bt146.2.2.2.2.1 bt146.2.2.2.2.2.1 bt146.2.2.2.2.2.2.1 bt146.2.2.2.2.2.2.2).bind fun t166 => (if t166 = true then (some true) else (some false)))) else (some false)))))))
set_option maxHeartbeats 8000000 in
set_option maxRecDepth 100000 in
theorem laws_FnExactMachineText.calls (k : Nat) (A0_0 : Option Addr) (c0_0 : Nat) (l0_0 : List (S176)) (A0_1 : Option Addr) (c0_1 : Nat) (l0_1 : List (S155)) (A0_2 : Option Addr) (c0_2 : Nat) (l0_2 : List (S114)) (a0_3 : Int) (A0_4 : Option Addr) (c0_4 : Nat) (l0_4 : List (S119)) (A0_5 : Option Addr) (c0_5 : Nat) (l0_5 : List Int) (A0_6 : Option Addr) (c0_6 : Nat) (l0_6 : List Int) (a0_7 : Int) (r : Bool) (w : World) (hr0_0 : Kd.C k176 w A0_0 l0_0.length l0_0) (hc0_0 : l0_0.length ≤ c0_0) (hr0_1 : Kd.C k155 w A0_1 l0_1.length l0_1) (hc0_1 : l0_1.length ≤ c0_1) (hr0_2 : Kd.C k114 w A0_2 l0_2.length l0_2) (hc0_2 : l0_2.length ≤ c0_2) (hr0_4 : Kd.C k119 w A0_4 l0_4.length l0_4) (hc0_4 : l0_4.length ≤ c0_4) (hr0_5 : Kd.C (Kd.int .i64) w A0_5 l0_5.length l0_5) (hc0_5 : l0_5.length ≤ c0_5) (hr0_6 : Kd.C (Kd.int .i64) w A0_6 l0_6.length l0_6) (hc0_6 : l0_6.length ≤ c0_6) (h : laws_FnExactMachineText.f k l0_0 l0_1 l0_2 a0_3 l0_4 l0_5 l0_6 a0_7 = some r) :
    Calls Tryz.prog 4 #[.agg #[.slice A0_0 l0_0.length c0_0, .slice A0_1 l0_1.length c0_1, .slice A0_2 l0_2.length c0_2, .int .i64 a0_3, .slice A0_4 l0_4.length c0_4, .slice A0_5 l0_5.length c0_5, .slice A0_6 l0_6.length c0_6, .int .i64 a0_7]] w fun e w' => e = .returned (.bool r) ∧ Below w.heap.size w w' := by
  have hu32 := Tryz.underlying32
  have hu43 := Tryz.underlying43
  have HR0_0 := Aside0.mk hr0_0
  have HC0_0 := Aside0.mk hc0_0
  clear hr0_0 hc0_0
  have HR0_1 := Aside0.mk hr0_1
  have HC0_1 := Aside0.mk hc0_1
  clear hr0_1 hc0_1
  have HR0_2 := Aside0.mk hr0_2
  have HC0_2 := Aside0.mk hc0_2
  clear hr0_2 hc0_2
  have HR0_4 := Aside0.mk hr0_4
  have HC0_4 := Aside0.mk hc0_4
  clear hr0_4 hc0_4
  have HR0_5 := Aside0.mk hr0_5
  have HC0_5 := Aside0.mk hc0_5
  clear hr0_5 hc0_5
  have HR0_6 := Aside0.mk hr0_6
  have HC0_6 := Aside0.mk hc0_6
  clear hr0_6 hc0_6
  have HB := Aside0.mk (Below.refl w.heap.size w)
  have H := h
  unfold laws_FnExactMachineText.f at H
  clear h
  replace H := bE H; obtain ⟨t102, A2, H⟩ := H
  go_enter Tryz.func4, Tryz.ntmps4
  go_wp2_with (first | (refine boxE 1 #[.slice A0_0 l0_0.length c0_0, .slice A0_1 l0_1.length c0_1, .slice A0_2 l0_2.length c0_2, .int .i64 a0_3, .slice A0_4 l0_4.length c0_4, .slice A0_5 l0_5.length c0_5, .slice A0_6 l0_6.length c0_6, .int .i64 a0_7] 32 ?_; intro gbz1 hg wz1 hbox hb; have BKz1 := Aside0.mk (hbox); have GWz1 := Aside0.mk (gX' hg (hX HB.out)); have GEz1 := Aside0.mk (gX' hg (hX HB.out)); replace HB := Aside0.mk (below_step (hX HB.out) hb); clear hb hbox hg; obtain ⟨hczz1, hczz2, hczz3, hczz4, hczz5, hczz6, hczz7, hczz8, hfzz1, hfzz2, hfzz3, hfzz4, hfzz5, hfzz6, hfzz7, hfzz8⟩ := cZ8 BKz1.out; refine Stop.out ?_))
  refine ⟨?_⟩
  by_cases c3 : t102 < 0
  · rw [if_pos c3] at H
    have c3b0 := decide_eq_true c3
    clear c3
    obtain rfl := Option.some.inj H
    go_wp2_with (first | (refine goesM 10 9 Tryz.func10 #[.agg #[.slice A0_0 l0_0.length c0_0, .slice A0_1 l0_1.length c0_1, .slice A0_2 l0_2.length c0_2, .int .i64 a0_3, .slice A0_4 l0_4.length c0_4, .slice A0_5 l0_5.length c0_5, .slice A0_6 l0_6.length c0_6, .int .i64 a0_7], .int .i64 1048576] ?_; refine (laws_szMachine.calls k _ _ l0_0 _ _ l0_1 _ _ l0_2 a0_3 _ _ l0_4 _ _ l0_5 _ _ l0_6 a0_7 1048576 t102 _ (cC HR0_0.out HB.out) HC0_0.out (cC HR0_1.out HB.out) HC0_1.out (cC HR0_2.out HB.out) HC0_2.out (cC HR0_4.out HB.out) HC0_4.out (cC HR0_5.out HB.out) HC0_5.out (cC HR0_6.out HB.out) HC0_6.out A2.out).mono ?_; rintro e wz2 ⟨rfl, hb⟩; refine ⟨_, rfl, ?_⟩; replace BKz1 := Aside0.mk (blk_below (bX BKz1.out) hb); replace HB := Aside0.mk (below_step (hX HB.out) hb); clear hb))
    go_ret
    exact ⟨rE, (hX HB.out)⟩
  · rw [if_neg c3] at H
    have c3b0 := decide_eq_false c3
    clear c3
    replace H := bE H; obtain ⟨⟨t103, t106, t109, t112, t113, t116, t119, t122⟩, A7, H⟩ := H
    try dsimp only at H
    replace H := bE H; obtain ⟨t123, A8, H⟩ := H
    replace H := bE H; obtain ⟨⟨t124, t127, t130, t133, t134, t137, t140, t143⟩, A9, H⟩ := H
    try dsimp only at H
    replace H := bE H; obtain ⟨t145, A10, H⟩ := H
    go_wp2_with (first | (refine goesM 10 9 Tryz.func10 #[.agg #[.slice A0_0 l0_0.length c0_0, .slice A0_1 l0_1.length c0_1, .slice A0_2 l0_2.length c0_2, .int .i64 a0_3, .slice A0_4 l0_4.length c0_4, .slice A0_5 l0_5.length c0_5, .slice A0_6 l0_6.length c0_6, .int .i64 a0_7], .int .i64 1048576] ?_; refine (laws_szMachine.calls k _ _ l0_0 _ _ l0_1 _ _ l0_2 a0_3 _ _ l0_4 _ _ l0_5 _ _ l0_6 a0_7 1048576 t102 _ (cC HR0_0.out HB.out) HC0_0.out (cC HR0_1.out HB.out) HC0_1.out (cC HR0_2.out HB.out) HC0_2.out (cC HR0_4.out HB.out) HC0_4.out (cC HR0_5.out HB.out) HC0_5.out (cC HR0_6.out HB.out) HC0_6.out A2.out).mono ?_; rintro e wz2 ⟨rfl, hb⟩; refine ⟨_, rfl, ?_⟩; replace BKz1 := Aside0.mk (blk_below (bX BKz1.out) hb); replace HB := Aside0.mk (below_step (hX HB.out) hb); clear hb; obtain ⟨hczz9, hczz10, hczz11, hczz12, hczz13, hczz14, hczz15, hczz16, hfzz9, hfzz10, hfzz11, hfzz12, hfzz13, hfzz14, hfzz15, hfzz16⟩ := cZ8 BKz1.out) | (refine goesM 12 13 Tryz.func12 #[.agg #[.slice A0_0 l0_0.length c0_0, .slice A0_1 l0_1.length c0_1, .slice A0_2 l0_2.length c0_2, .int .i64 a0_3, .slice A0_4 l0_4.length c0_4, .slice A0_5 l0_5.length c0_5, .slice A0_6 l0_6.length c0_6, .int .i64 a0_7]] ?_; refine (laws_toMachine.calls k _ _ l0_0 _ _ l0_1 _ _ l0_2 a0_3 _ _ l0_4 _ _ l0_5 _ _ l0_6 a0_7 t103 t106 t109 t112 t113 t116 t119 t122 _ (cC HR0_0.out HB.out) HC0_0.out (cC HR0_1.out HB.out) HC0_1.out (cC HR0_2.out HB.out) HC0_2.out (cC HR0_4.out HB.out) HC0_4.out (cC HR0_5.out HB.out) HC0_5.out (cC HR0_6.out HB.out) HC0_6.out A7.out).mono ?_; rintro e wz3 ⟨vz1, vz2, vz3, vz4, vz5, vz6, rfl, hoz1, hoz2, hoz3, hoz4, hoz5, hoz6, hb⟩; refine ⟨_, rfl, ?_⟩; have HOz1 := Aside0.mk (Kd.R_lower hoz1 (below_size (hX HB.out))); have HOz2 := Aside0.mk (Kd.S_lower hoz2 (below_size (hX HB.out))); have HOz3 := Aside0.mk (Kd.S_lower hoz3 (below_size (hX HB.out))); have HOz4 := Aside0.mk (Kd.S_lower hoz4 (below_size (hX HB.out))); have HOz5 := Aside0.mk (Kd.R_lower hoz5 (below_size (hX HB.out))); have HOz6 := Aside0.mk (Kd.R_lower hoz6 (below_size (hX HB.out))); replace BKz1 := Aside0.mk (blk_below (bX BKz1.out) hb); replace HB := Aside0.mk (below_step (hX HB.out) hb); clear hb hoz1 hoz2 hoz3 hoz4 hoz5 hoz6; obtain ⟨Aoz1, coz1, eoz1⟩ := Kd.R_slice HOz1.out; subst eoz1; obtain ⟨Aoz2, coz2, eoz2⟩ := Kd.S_slice HOz2.out; subst eoz2; obtain ⟨Aoz3, coz3, eoz3⟩ := Kd.S_slice HOz3.out; subst eoz3; obtain ⟨Aoz4, coz4, eoz4⟩ := Kd.S_slice HOz4.out; subst eoz4; obtain ⟨Aoz5, coz5, eoz5⟩ := Kd.R_slice HOz5.out; subst eoz5; obtain ⟨Aoz6, coz6, eoz6⟩ := Kd.R_slice HOz6.out; subst eoz6) | (refine goesM 15 14 Tryz.func15 #[.agg #[.slice Aoz1 t103.length coz1, .slice Aoz2 t106.length coz2, .slice Aoz3 t109.length coz3, .int .i64 t112, .slice Aoz4 t113.length coz4, .slice Aoz5 t116.length coz5, .slice Aoz6 t119.length coz6, .int .i64 t122]] ?_; refine (spec_MachineText.calls k _ _ t103 _ _ t106 _ _ t109 t112 _ _ t113 _ _ t116 _ _ t119 t122 t123 _ (cX (Kd.R_reads' HOz1.out).2.2) ((Kd.R_reads' HOz1.out).2.1) (cX (Kd.S_reads' HOz2.out).2.2) ((Kd.S_reads' HOz2.out).2.1) (cX (Kd.S_reads' HOz3.out).2.2) ((Kd.S_reads' HOz3.out).2.1) (cX (Kd.S_reads' HOz4.out).2.2) ((Kd.S_reads' HOz4.out).2.1) (cX (Kd.R_reads' HOz5.out).2.2) ((Kd.R_reads' HOz5.out).2.1) (cX (Kd.R_reads' HOz6.out).2.2) ((Kd.R_reads' HOz6.out).2.1) A8.out).mono ?_; rintro e wz4 ⟨rfl, hb⟩; refine ⟨_, rfl, ?_⟩; replace HOz1 := Aside0.mk (Kd.R_below (rX HOz1.out) hb); replace HOz2 := Aside0.mk (Kd.S_below (sX HOz2.out) hb); replace HOz3 := Aside0.mk (Kd.S_below (sX HOz3.out) hb); replace HOz4 := Aside0.mk (Kd.S_below (sX HOz4.out) hb); replace HOz5 := Aside0.mk (Kd.R_below (rX HOz5.out) hb); replace HOz6 := Aside0.mk (Kd.R_below (rX HOz6.out) hb); replace BKz1 := Aside0.mk (blk_below (bX BKz1.out) hb); replace HB := Aside0.mk (below_step (hX HB.out) hb); clear hb; obtain ⟨hczz17, hczz18, hczz19, hczz20, hczz21, hczz22, hczz23, hczz24, hfzz17, hfzz18, hfzz19, hfzz20, hfzz21, hfzz22, hfzz23, hfzz24⟩ := cZ8 BKz1.out) | (refine goesM 12 16 Tryz.func12 #[.agg #[.slice A0_0 l0_0.length c0_0, .slice A0_1 l0_1.length c0_1, .slice A0_2 l0_2.length c0_2, .int .i64 a0_3, .slice A0_4 l0_4.length c0_4, .slice A0_5 l0_5.length c0_5, .slice A0_6 l0_6.length c0_6, .int .i64 a0_7]] ?_; refine (laws_toMachine.calls k _ _ l0_0 _ _ l0_1 _ _ l0_2 a0_3 _ _ l0_4 _ _ l0_5 _ _ l0_6 a0_7 t124 t127 t130 t133 t134 t137 t140 t143 _ (cC HR0_0.out HB.out) HC0_0.out (cC HR0_1.out HB.out) HC0_1.out (cC HR0_2.out HB.out) HC0_2.out (cC HR0_4.out HB.out) HC0_4.out (cC HR0_5.out HB.out) HC0_5.out (cC HR0_6.out HB.out) HC0_6.out A9.out).mono ?_; rintro e wz5 ⟨vz7, vz8, vz9, vz10, vz11, vz12, rfl, hoz1, hoz2, hoz3, hoz4, hoz5, hoz6, hb⟩; refine ⟨_, rfl, ?_⟩; have HOz7 := Aside0.mk (Kd.R_lower (Kd.R_new' hoz1 (Kd.R_lt (rX HOz1.out))) (below_size (hX HB.out))); have HOz8 := Aside0.mk (Kd.S_lower (Kd.S_new' (Kd.S_new' (Kd.S_new' hoz2 (Kd.S_lt (sX HOz2.out))) (Kd.R_lt (rX HOz5.out))) (Kd.R_lt (rX HOz6.out))) (below_size (hX HB.out))); have HOz9 := Aside0.mk (Kd.S_lower (Kd.S_new' hoz3 (Kd.S_lt (sX HOz3.out))) (below_size (hX HB.out))); have HOz10 := Aside0.mk (Kd.S_lower (Kd.S_new' (Kd.S_new' (Kd.S_new' hoz4 (Kd.S_lt (sX HOz4.out))) (Kd.R_lt (rX HOz5.out))) (Kd.R_lt (rX HOz6.out))) (below_size (hX HB.out))); have HOz11 := Aside0.mk (Kd.R_lower (Kd.R_new' (Kd.R_new' hoz5 (Kd.R_lt (rX HOz5.out))) (Kd.R_lt (rX HOz6.out))) (below_size (hX HB.out))); have HOz12 := Aside0.mk (Kd.R_lower (Kd.R_new' (Kd.R_new' hoz6 (Kd.R_lt (rX HOz5.out))) (Kd.R_lt (rX HOz6.out))) (below_size (hX HB.out))); replace HOz1 := Aside0.mk (Kd.R_elder' (rX HOz1.out) (Kd.R_base hoz1) hb); replace HOz2 := Aside0.mk (Kd.S_mono (Kd.S_told (Kd.S_told (Kd.S_told (Kd.S_old (sX HOz2.out) hb) (Kd.S_base hoz2)) (Kd.R_base hoz5)) (Kd.R_base hoz6)) (fun _ h_ => h_.1)); replace HOz3 := Aside0.mk (Kd.S_elder' (sX HOz3.out) (Kd.S_base hoz3) hb); replace HOz4 := Aside0.mk (Kd.S_mono (Kd.S_told (Kd.S_told (Kd.S_told (Kd.S_old (sX HOz4.out) hb) (Kd.S_base hoz4)) (Kd.R_base hoz5)) (Kd.R_base hoz6)) (fun _ h_ => h_.1)); replace HOz5 := Aside0.mk (Kd.R_mono (Kd.R_told (Kd.R_told (Kd.R_old (rX HOz5.out) hb) (Kd.R_base hoz5)) (Kd.R_base hoz6)) (fun _ h_ => h_.1)); replace HOz6 := Aside0.mk (Kd.R_mono (Kd.R_told (Kd.R_told (Kd.R_old (rX HOz6.out) hb) (Kd.R_base hoz5)) (Kd.R_base hoz6)) (fun _ h_ => h_.1)); replace BKz1 := Aside0.mk (blk_below (bX BKz1.out) hb); replace HB := Aside0.mk (below_step (hX HB.out) hb); clear hb hoz1 hoz2 hoz3 hoz4 hoz5 hoz6) | (refine boxE 5 #[.slice none 0 0, .slice none 0 0, .slice none 0 0, .int .i64 0, .slice none 0 0, .slice none 0 0, .slice none 0 0, .int .i64 0] 43 ?_; intro gbz2 hg wz6 hbox hb; have BKz2 := Aside0.mk (hbox); have GWz2 := Aside0.mk (gX' hg (hX HB.out)); have GEz2 := Aside0.mk (gX' hg (hX HB.out)); have NBz1 := Aside0.mk (gL hg (bX BKz1.out)); have NBz2 := Aside0.mk (gG hg (bX BKz1.out)); replace HOz1 := Aside0.mk (Kd.R_below (rX HOz1.out) hb); replace HOz2 := Aside0.mk (Kd.S_below (sX HOz2.out) hb); replace HOz3 := Aside0.mk (Kd.S_below (sX HOz3.out) hb); replace HOz4 := Aside0.mk (Kd.S_below (sX HOz4.out) hb); replace HOz5 := Aside0.mk (Kd.R_below (rX HOz5.out) hb); replace HOz6 := Aside0.mk (Kd.R_below (rX HOz6.out) hb); replace HOz7 := Aside0.mk (Kd.R_below (rX HOz7.out) hb); replace HOz8 := Aside0.mk (Kd.S_below (sX HOz8.out) hb); replace HOz9 := Aside0.mk (Kd.S_below (sX HOz9.out) hb); replace HOz10 := Aside0.mk (Kd.S_below (sX HOz10.out) hb); replace HOz11 := Aside0.mk (Kd.R_below (rX HOz11.out) hb); replace HOz12 := Aside0.mk (Kd.R_below (rX HOz12.out) hb); replace BKz1 := Aside0.mk (blk_below (bX BKz1.out) hb); replace HB := Aside0.mk (below_step (hX HB.out) hb); clear hb hbox hg; obtain ⟨Aoz7, coz7, eoz7⟩ := Kd.R_slice HOz7.out; subst eoz7; have hnbz1 := NBz2.out; have hncz1 := NBz1.out; obtain ⟨hczz25, hczz26, hczz27, hczz28, hczz29, hczz30, hczz31, hczz32, hfzz25, hfzz26, hfzz27, hfzz28, hfzz29, hfzz30, hfzz31, hfzz32⟩ := cZ8 BKz2.out; obtain ⟨Aoz8, coz8, eoz8⟩ := Kd.S_slice HOz8.out; subst eoz8; obtain ⟨Aoz9, coz9, eoz9⟩ := Kd.S_slice HOz9.out; subst eoz9; obtain ⟨Aoz10, coz10, eoz10⟩ := Kd.S_slice HOz10.out; subst eoz10; obtain ⟨Aoz11, coz11, eoz11⟩ := Kd.R_slice HOz11.out; subst eoz11; obtain ⟨Aoz12, coz12, eoz12⟩ := Kd.R_slice HOz12.out; subst eoz12) | (refine goesM 16 18 Tryz.func16 #[.agg #[.slice Aoz7 t124.length coz7, .slice Aoz8 t127.length coz8, .slice Aoz9 t130.length coz9, .int .i64 t133, .slice Aoz10 t134.length coz10, .slice Aoz11 t137.length coz11, .slice Aoz12 t140.length coz12, .int .i64 t143]] ?_; refine (impl_MachineText.calls k _ _ t124 _ _ t127 _ _ t130 t133 _ _ t134 _ _ t137 _ _ t140 t143 t145 _ (by refine (Kd.R_reads' (e := 140) (base := w.heap.size) (ok := fun k_ => (True ∧ some k_ ≠ (.slice Aoz1 t103.length coz1 : Value).ownBlock)) (n := t124.length) (c := coz7) ?_).2.2; exact (rT (h := by exact (Kd.R_mono (Kd.R_far (p := ⟨gbz2, 7, none⟩) (Kd.R_far (p := ⟨gbz2, 6, none⟩) (Kd.R_far (p := ⟨gbz2, 5, none⟩) (Kd.R_far (p := ⟨gbz2, 4, none⟩) (Kd.R_far (p := ⟨gbz2, 3, none⟩) (Kd.R_far (p := ⟨gbz2, 2, none⟩) (Kd.R_far (p := ⟨gbz2, 1, none⟩) (Kd.R_far (p := ⟨gbz2, 0, none⟩) (Kd.R_types HOz7.out BKz2.out (by decide)) (fun _ hk => hk.2) (.slice Aoz7 t124.length coz7)) (fun _ hk => hk.2) (.slice Aoz8 t127.length coz8)) (fun _ hk => hk.2) (.slice Aoz9 t130.length coz9)) (fun _ hk => hk.2) (.int .i64 t133)) (fun _ hk => hk.2) (.slice Aoz10 t134.length coz10)) (fun _ hk => hk.2) (.slice Aoz11 t137.length coz11)) (fun _ hk => hk.2) (.slice Aoz12 t140.length coz12)) (fun _ hk => hk.2) (.int .i64 t143)) (fun _ h_ => h_.1))))) ((Kd.R_reads' HOz7.out).2.1) (by refine (Kd.S_reads' (e := 162) (base := w.heap.size) (ok := fun k_ => ((((some k_ ≠ (.slice Aoz11 t137.length coz11 : Value).ownBlock ∧ some k_ ≠ (.slice Aoz12 t140.length coz12 : Value).ownBlock) ∧ some k_ ≠ (.slice Aoz2 t106.length coz2 : Value).ownBlock) ∧ some k_ ≠ (.slice Aoz5 t116.length coz5 : Value).ownBlock) ∧ some k_ ≠ (.slice Aoz6 t119.length coz6 : Value).ownBlock)) (n := t127.length) (c := coz8) ?_).2.2; exact (by (with_reducible repeat (first | apply Kd.S_alloc | apply Kd.S_drewN | apply Kd.S_drew)); exact (Kd.S_mono (Kd.S_far (p := ⟨gbz2, 7, none⟩) (Kd.S_far (p := ⟨gbz2, 6, none⟩) (Kd.S_far (p := ⟨gbz2, 5, none⟩) (Kd.S_far (p := ⟨gbz2, 4, none⟩) (Kd.S_far (p := ⟨gbz2, 3, none⟩) (Kd.S_far (p := ⟨gbz2, 2, none⟩) (Kd.S_far (p := ⟨gbz2, 1, none⟩) (Kd.S_far (p := ⟨gbz2, 0, none⟩) (Kd.S_types HOz8.out BKz2.out (by decide)) (fun _ hk => hk.2) (.slice Aoz7 t124.length coz7)) (fun _ hk => hk.2) (.slice Aoz8 t127.length coz8)) (fun _ hk => hk.2) (.slice Aoz9 t130.length coz9)) (fun _ hk => hk.2) (.int .i64 t133)) (fun _ hk => hk.2) (.slice Aoz10 t134.length coz10)) (fun _ hk => hk.2) (.slice Aoz11 t137.length coz11)) (fun _ hk => hk.2) (.slice Aoz12 t140.length coz12)) (fun _ hk => hk.2) (.int .i64 t143)) (fun _ h_ => h_.1)))) ((Kd.S_reads' HOz8.out).2.1) (by refine (Kd.S_reads' (e := 97) (base := w.heap.size) (ok := fun k_ => (True ∧ some k_ ≠ (.slice Aoz3 t109.length coz3 : Value).ownBlock)) (n := t130.length) (c := coz9) ?_).2.2; exact (by (with_reducible repeat (first | apply Kd.S_alloc | apply Kd.S_drewN | apply Kd.S_drew)); exact (Kd.S_mono (Kd.S_far (p := ⟨gbz2, 7, none⟩) (Kd.S_far (p := ⟨gbz2, 6, none⟩) (Kd.S_far (p := ⟨gbz2, 5, none⟩) (Kd.S_far (p := ⟨gbz2, 4, none⟩) (Kd.S_far (p := ⟨gbz2, 3, none⟩) (Kd.S_far (p := ⟨gbz2, 2, none⟩) (Kd.S_far (p := ⟨gbz2, 1, none⟩) (Kd.S_far (p := ⟨gbz2, 0, none⟩) (Kd.S_types HOz9.out BKz2.out (by decide)) (fun _ hk => hk.2) (.slice Aoz7 t124.length coz7)) (fun _ hk => hk.2) (.slice Aoz8 t127.length coz8)) (fun _ hk => hk.2) (.slice Aoz9 t130.length coz9)) (fun _ hk => hk.2) (.int .i64 t133)) (fun _ hk => hk.2) (.slice Aoz10 t134.length coz10)) (fun _ hk => hk.2) (.slice Aoz11 t137.length coz11)) (fun _ hk => hk.2) (.slice Aoz12 t140.length coz12)) (fun _ hk => hk.2) (.int .i64 t143)) (fun _ h_ => h_.1)))) ((Kd.S_reads' HOz9.out).2.1) (by refine (Kd.S_reads' (e := 73) (base := w.heap.size) (ok := fun k_ => ((((some k_ ≠ (.slice Aoz11 t137.length coz11 : Value).ownBlock ∧ some k_ ≠ (.slice Aoz12 t140.length coz12 : Value).ownBlock) ∧ some k_ ≠ (.slice Aoz4 t113.length coz4 : Value).ownBlock) ∧ some k_ ≠ (.slice Aoz5 t116.length coz5 : Value).ownBlock) ∧ some k_ ≠ (.slice Aoz6 t119.length coz6 : Value).ownBlock)) (n := t134.length) (c := coz10) ?_).2.2; exact (by (with_reducible repeat (first | apply Kd.S_alloc | apply Kd.S_drewN | apply Kd.S_drew)); exact (Kd.S_mono (Kd.S_far (p := ⟨gbz2, 7, none⟩) (Kd.S_far (p := ⟨gbz2, 6, none⟩) (Kd.S_far (p := ⟨gbz2, 5, none⟩) (Kd.S_far (p := ⟨gbz2, 4, none⟩) (Kd.S_far (p := ⟨gbz2, 3, none⟩) (Kd.S_far (p := ⟨gbz2, 2, none⟩) (Kd.S_far (p := ⟨gbz2, 1, none⟩) (Kd.S_far (p := ⟨gbz2, 0, none⟩) (Kd.S_types HOz10.out BKz2.out (by decide)) (fun _ hk => hk.2) (.slice Aoz7 t124.length coz7)) (fun _ hk => hk.2) (.slice Aoz8 t127.length coz8)) (fun _ hk => hk.2) (.slice Aoz9 t130.length coz9)) (fun _ hk => hk.2) (.int .i64 t133)) (fun _ hk => hk.2) (.slice Aoz10 t134.length coz10)) (fun _ hk => hk.2) (.slice Aoz11 t137.length coz11)) (fun _ hk => hk.2) (.slice Aoz12 t140.length coz12)) (fun _ hk => hk.2) (.int .i64 t143)) (fun _ h_ => h_.1)))) ((Kd.S_reads' HOz10.out).2.1) (by refine (Kd.R_reads' (e := 3) (base := w.heap.size) (ok := fun k_ => ((some k_ ≠ (.slice Aoz12 t140.length coz12 : Value).ownBlock ∧ some k_ ≠ (.slice Aoz5 t116.length coz5 : Value).ownBlock) ∧ some k_ ≠ (.slice Aoz6 t119.length coz6 : Value).ownBlock)) (n := t137.length) (c := coz11) ?_).2.2; exact (rT (h := by exact (Kd.R_mono (Kd.R_far (p := ⟨gbz2, 7, none⟩) (Kd.R_far (p := ⟨gbz2, 6, none⟩) (Kd.R_far (p := ⟨gbz2, 5, none⟩) (Kd.R_far (p := ⟨gbz2, 4, none⟩) (Kd.R_far (p := ⟨gbz2, 3, none⟩) (Kd.R_far (p := ⟨gbz2, 2, none⟩) (Kd.R_far (p := ⟨gbz2, 1, none⟩) (Kd.R_far (p := ⟨gbz2, 0, none⟩) (Kd.R_types HOz11.out BKz2.out (by decide)) (fun _ hk => hk.2) (.slice Aoz7 t124.length coz7)) (fun _ hk => hk.2) (.slice Aoz8 t127.length coz8)) (fun _ hk => hk.2) (.slice Aoz9 t130.length coz9)) (fun _ hk => hk.2) (.int .i64 t133)) (fun _ hk => hk.2) (.slice Aoz10 t134.length coz10)) (fun _ hk => hk.2) (.slice Aoz11 t137.length coz11)) (fun _ hk => hk.2) (.slice Aoz12 t140.length coz12)) (fun _ hk => hk.2) (.int .i64 t143)) (fun _ h_ => h_.1))))) ((Kd.R_reads' HOz11.out).2.1) (by refine (Kd.R_reads' (e := 3) (base := w.heap.size) (ok := fun k_ => ((some k_ ≠ (.slice Aoz11 t137.length coz11 : Value).ownBlock ∧ some k_ ≠ (.slice Aoz5 t116.length coz5 : Value).ownBlock) ∧ some k_ ≠ (.slice Aoz6 t119.length coz6 : Value).ownBlock)) (n := t140.length) (c := coz12) ?_).2.2; exact (rT (h := by exact (Kd.R_mono (Kd.R_far (p := ⟨gbz2, 7, none⟩) (Kd.R_far (p := ⟨gbz2, 6, none⟩) (Kd.R_far (p := ⟨gbz2, 5, none⟩) (Kd.R_far (p := ⟨gbz2, 4, none⟩) (Kd.R_far (p := ⟨gbz2, 3, none⟩) (Kd.R_far (p := ⟨gbz2, 2, none⟩) (Kd.R_far (p := ⟨gbz2, 1, none⟩) (Kd.R_far (p := ⟨gbz2, 0, none⟩) (Kd.R_types HOz12.out BKz2.out (by decide)) (fun _ hk => hk.2) (.slice Aoz7 t124.length coz7)) (fun _ hk => hk.2) (.slice Aoz8 t127.length coz8)) (fun _ hk => hk.2) (.slice Aoz9 t130.length coz9)) (fun _ hk => hk.2) (.int .i64 t133)) (fun _ hk => hk.2) (.slice Aoz10 t134.length coz10)) (fun _ hk => hk.2) (.slice Aoz11 t137.length coz11)) (fun _ hk => hk.2) (.slice Aoz12 t140.length coz12)) (fun _ hk => hk.2) (.int .i64 t143)) (fun _ h_ => h_.1))))) ((Kd.R_reads' HOz12.out).2.1) A10.out).mono ?_; rintro e wz7 ⟨rfl, hb⟩; refine ⟨_, rfl, ?_⟩; replace HOz1 := Aside0.mk (Kd.R_below (rT (h := by exact (Kd.R_mono (Kd.R_far (p := ⟨gbz2, 7, none⟩) (Kd.R_far (p := ⟨gbz2, 6, none⟩) (Kd.R_far (p := ⟨gbz2, 5, none⟩) (Kd.R_far (p := ⟨gbz2, 4, none⟩) (Kd.R_far (p := ⟨gbz2, 3, none⟩) (Kd.R_far (p := ⟨gbz2, 2, none⟩) (Kd.R_far (p := ⟨gbz2, 1, none⟩) (Kd.R_far (p := ⟨gbz2, 0, none⟩) (Kd.R_types HOz1.out BKz2.out (by decide)) (fun _ hk => hk.2) (.slice Aoz7 t124.length coz7)) (fun _ hk => hk.2) (.slice Aoz8 t127.length coz8)) (fun _ hk => hk.2) (.slice Aoz9 t130.length coz9)) (fun _ hk => hk.2) (.int .i64 t133)) (fun _ hk => hk.2) (.slice Aoz10 t134.length coz10)) (fun _ hk => hk.2) (.slice Aoz11 t137.length coz11)) (fun _ hk => hk.2) (.slice Aoz12 t140.length coz12)) (fun _ hk => hk.2) (.int .i64 t143)) (fun _ h_ => h_.1)))) hb); replace HOz2 := Aside0.mk (Kd.S_below (by (with_reducible repeat (first | apply Kd.S_alloc | apply Kd.S_drewN | apply Kd.S_drew)); exact (Kd.S_mono (Kd.S_far (p := ⟨gbz2, 7, none⟩) (Kd.S_far (p := ⟨gbz2, 6, none⟩) (Kd.S_far (p := ⟨gbz2, 5, none⟩) (Kd.S_far (p := ⟨gbz2, 4, none⟩) (Kd.S_far (p := ⟨gbz2, 3, none⟩) (Kd.S_far (p := ⟨gbz2, 2, none⟩) (Kd.S_far (p := ⟨gbz2, 1, none⟩) (Kd.S_far (p := ⟨gbz2, 0, none⟩) (Kd.S_types HOz2.out BKz2.out (by decide)) (fun _ hk => hk.2) (.slice Aoz7 t124.length coz7)) (fun _ hk => hk.2) (.slice Aoz8 t127.length coz8)) (fun _ hk => hk.2) (.slice Aoz9 t130.length coz9)) (fun _ hk => hk.2) (.int .i64 t133)) (fun _ hk => hk.2) (.slice Aoz10 t134.length coz10)) (fun _ hk => hk.2) (.slice Aoz11 t137.length coz11)) (fun _ hk => hk.2) (.slice Aoz12 t140.length coz12)) (fun _ hk => hk.2) (.int .i64 t143)) (fun _ h_ => h_.1))) hb); replace HOz3 := Aside0.mk (Kd.S_below (by (with_reducible repeat (first | apply Kd.S_alloc | apply Kd.S_drewN | apply Kd.S_drew)); exact (Kd.S_mono (Kd.S_far (p := ⟨gbz2, 7, none⟩) (Kd.S_far (p := ⟨gbz2, 6, none⟩) (Kd.S_far (p := ⟨gbz2, 5, none⟩) (Kd.S_far (p := ⟨gbz2, 4, none⟩) (Kd.S_far (p := ⟨gbz2, 3, none⟩) (Kd.S_far (p := ⟨gbz2, 2, none⟩) (Kd.S_far (p := ⟨gbz2, 1, none⟩) (Kd.S_far (p := ⟨gbz2, 0, none⟩) (Kd.S_types HOz3.out BKz2.out (by decide)) (fun _ hk => hk.2) (.slice Aoz7 t124.length coz7)) (fun _ hk => hk.2) (.slice Aoz8 t127.length coz8)) (fun _ hk => hk.2) (.slice Aoz9 t130.length coz9)) (fun _ hk => hk.2) (.int .i64 t133)) (fun _ hk => hk.2) (.slice Aoz10 t134.length coz10)) (fun _ hk => hk.2) (.slice Aoz11 t137.length coz11)) (fun _ hk => hk.2) (.slice Aoz12 t140.length coz12)) (fun _ hk => hk.2) (.int .i64 t143)) (fun _ h_ => h_.1))) hb); replace HOz4 := Aside0.mk (Kd.S_below (by (with_reducible repeat (first | apply Kd.S_alloc | apply Kd.S_drewN | apply Kd.S_drew)); exact (Kd.S_mono (Kd.S_far (p := ⟨gbz2, 7, none⟩) (Kd.S_far (p := ⟨gbz2, 6, none⟩) (Kd.S_far (p := ⟨gbz2, 5, none⟩) (Kd.S_far (p := ⟨gbz2, 4, none⟩) (Kd.S_far (p := ⟨gbz2, 3, none⟩) (Kd.S_far (p := ⟨gbz2, 2, none⟩) (Kd.S_far (p := ⟨gbz2, 1, none⟩) (Kd.S_far (p := ⟨gbz2, 0, none⟩) (Kd.S_types HOz4.out BKz2.out (by decide)) (fun _ hk => hk.2) (.slice Aoz7 t124.length coz7)) (fun _ hk => hk.2) (.slice Aoz8 t127.length coz8)) (fun _ hk => hk.2) (.slice Aoz9 t130.length coz9)) (fun _ hk => hk.2) (.int .i64 t133)) (fun _ hk => hk.2) (.slice Aoz10 t134.length coz10)) (fun _ hk => hk.2) (.slice Aoz11 t137.length coz11)) (fun _ hk => hk.2) (.slice Aoz12 t140.length coz12)) (fun _ hk => hk.2) (.int .i64 t143)) (fun _ h_ => h_.1))) hb); replace HOz5 := Aside0.mk (Kd.R_below (rT (h := by exact (Kd.R_mono (Kd.R_far (p := ⟨gbz2, 7, none⟩) (Kd.R_far (p := ⟨gbz2, 6, none⟩) (Kd.R_far (p := ⟨gbz2, 5, none⟩) (Kd.R_far (p := ⟨gbz2, 4, none⟩) (Kd.R_far (p := ⟨gbz2, 3, none⟩) (Kd.R_far (p := ⟨gbz2, 2, none⟩) (Kd.R_far (p := ⟨gbz2, 1, none⟩) (Kd.R_far (p := ⟨gbz2, 0, none⟩) (Kd.R_types HOz5.out BKz2.out (by decide)) (fun _ hk => hk.2) (.slice Aoz7 t124.length coz7)) (fun _ hk => hk.2) (.slice Aoz8 t127.length coz8)) (fun _ hk => hk.2) (.slice Aoz9 t130.length coz9)) (fun _ hk => hk.2) (.int .i64 t133)) (fun _ hk => hk.2) (.slice Aoz10 t134.length coz10)) (fun _ hk => hk.2) (.slice Aoz11 t137.length coz11)) (fun _ hk => hk.2) (.slice Aoz12 t140.length coz12)) (fun _ hk => hk.2) (.int .i64 t143)) (fun _ h_ => h_.1)))) hb); replace HOz6 := Aside0.mk (Kd.R_below (rT (h := by exact (Kd.R_mono (Kd.R_far (p := ⟨gbz2, 7, none⟩) (Kd.R_far (p := ⟨gbz2, 6, none⟩) (Kd.R_far (p := ⟨gbz2, 5, none⟩) (Kd.R_far (p := ⟨gbz2, 4, none⟩) (Kd.R_far (p := ⟨gbz2, 3, none⟩) (Kd.R_far (p := ⟨gbz2, 2, none⟩) (Kd.R_far (p := ⟨gbz2, 1, none⟩) (Kd.R_far (p := ⟨gbz2, 0, none⟩) (Kd.R_types HOz6.out BKz2.out (by decide)) (fun _ hk => hk.2) (.slice Aoz7 t124.length coz7)) (fun _ hk => hk.2) (.slice Aoz8 t127.length coz8)) (fun _ hk => hk.2) (.slice Aoz9 t130.length coz9)) (fun _ hk => hk.2) (.int .i64 t133)) (fun _ hk => hk.2) (.slice Aoz10 t134.length coz10)) (fun _ hk => hk.2) (.slice Aoz11 t137.length coz11)) (fun _ hk => hk.2) (.slice Aoz12 t140.length coz12)) (fun _ hk => hk.2) (.int .i64 t143)) (fun _ h_ => h_.1)))) hb); replace HOz7 := Aside0.mk (Kd.R_below (rT (h := by exact (Kd.R_mono (Kd.R_far (p := ⟨gbz2, 7, none⟩) (Kd.R_far (p := ⟨gbz2, 6, none⟩) (Kd.R_far (p := ⟨gbz2, 5, none⟩) (Kd.R_far (p := ⟨gbz2, 4, none⟩) (Kd.R_far (p := ⟨gbz2, 3, none⟩) (Kd.R_far (p := ⟨gbz2, 2, none⟩) (Kd.R_far (p := ⟨gbz2, 1, none⟩) (Kd.R_far (p := ⟨gbz2, 0, none⟩) (Kd.R_types HOz7.out BKz2.out (by decide)) (fun _ hk => hk.2) (.slice Aoz7 t124.length coz7)) (fun _ hk => hk.2) (.slice Aoz8 t127.length coz8)) (fun _ hk => hk.2) (.slice Aoz9 t130.length coz9)) (fun _ hk => hk.2) (.int .i64 t133)) (fun _ hk => hk.2) (.slice Aoz10 t134.length coz10)) (fun _ hk => hk.2) (.slice Aoz11 t137.length coz11)) (fun _ hk => hk.2) (.slice Aoz12 t140.length coz12)) (fun _ hk => hk.2) (.int .i64 t143)) (fun _ h_ => h_.1)))) hb); replace HOz8 := Aside0.mk (Kd.S_below (by (with_reducible repeat (first | apply Kd.S_alloc | apply Kd.S_drewN | apply Kd.S_drew)); exact (Kd.S_mono (Kd.S_far (p := ⟨gbz2, 7, none⟩) (Kd.S_far (p := ⟨gbz2, 6, none⟩) (Kd.S_far (p := ⟨gbz2, 5, none⟩) (Kd.S_far (p := ⟨gbz2, 4, none⟩) (Kd.S_far (p := ⟨gbz2, 3, none⟩) (Kd.S_far (p := ⟨gbz2, 2, none⟩) (Kd.S_far (p := ⟨gbz2, 1, none⟩) (Kd.S_far (p := ⟨gbz2, 0, none⟩) (Kd.S_types HOz8.out BKz2.out (by decide)) (fun _ hk => hk.2) (.slice Aoz7 t124.length coz7)) (fun _ hk => hk.2) (.slice Aoz8 t127.length coz8)) (fun _ hk => hk.2) (.slice Aoz9 t130.length coz9)) (fun _ hk => hk.2) (.int .i64 t133)) (fun _ hk => hk.2) (.slice Aoz10 t134.length coz10)) (fun _ hk => hk.2) (.slice Aoz11 t137.length coz11)) (fun _ hk => hk.2) (.slice Aoz12 t140.length coz12)) (fun _ hk => hk.2) (.int .i64 t143)) (fun _ h_ => h_.1))) hb); replace HOz9 := Aside0.mk (Kd.S_below (by (with_reducible repeat (first | apply Kd.S_alloc | apply Kd.S_drewN | apply Kd.S_drew)); exact (Kd.S_mono (Kd.S_far (p := ⟨gbz2, 7, none⟩) (Kd.S_far (p := ⟨gbz2, 6, none⟩) (Kd.S_far (p := ⟨gbz2, 5, none⟩) (Kd.S_far (p := ⟨gbz2, 4, none⟩) (Kd.S_far (p := ⟨gbz2, 3, none⟩) (Kd.S_far (p := ⟨gbz2, 2, none⟩) (Kd.S_far (p := ⟨gbz2, 1, none⟩) (Kd.S_far (p := ⟨gbz2, 0, none⟩) (Kd.S_types HOz9.out BKz2.out (by decide)) (fun _ hk => hk.2) (.slice Aoz7 t124.length coz7)) (fun _ hk => hk.2) (.slice Aoz8 t127.length coz8)) (fun _ hk => hk.2) (.slice Aoz9 t130.length coz9)) (fun _ hk => hk.2) (.int .i64 t133)) (fun _ hk => hk.2) (.slice Aoz10 t134.length coz10)) (fun _ hk => hk.2) (.slice Aoz11 t137.length coz11)) (fun _ hk => hk.2) (.slice Aoz12 t140.length coz12)) (fun _ hk => hk.2) (.int .i64 t143)) (fun _ h_ => h_.1))) hb); replace HOz10 := Aside0.mk (Kd.S_below (by (with_reducible repeat (first | apply Kd.S_alloc | apply Kd.S_drewN | apply Kd.S_drew)); exact (Kd.S_mono (Kd.S_far (p := ⟨gbz2, 7, none⟩) (Kd.S_far (p := ⟨gbz2, 6, none⟩) (Kd.S_far (p := ⟨gbz2, 5, none⟩) (Kd.S_far (p := ⟨gbz2, 4, none⟩) (Kd.S_far (p := ⟨gbz2, 3, none⟩) (Kd.S_far (p := ⟨gbz2, 2, none⟩) (Kd.S_far (p := ⟨gbz2, 1, none⟩) (Kd.S_far (p := ⟨gbz2, 0, none⟩) (Kd.S_types HOz10.out BKz2.out (by decide)) (fun _ hk => hk.2) (.slice Aoz7 t124.length coz7)) (fun _ hk => hk.2) (.slice Aoz8 t127.length coz8)) (fun _ hk => hk.2) (.slice Aoz9 t130.length coz9)) (fun _ hk => hk.2) (.int .i64 t133)) (fun _ hk => hk.2) (.slice Aoz10 t134.length coz10)) (fun _ hk => hk.2) (.slice Aoz11 t137.length coz11)) (fun _ hk => hk.2) (.slice Aoz12 t140.length coz12)) (fun _ hk => hk.2) (.int .i64 t143)) (fun _ h_ => h_.1))) hb); replace HOz11 := Aside0.mk (Kd.R_below (rT (h := by exact (Kd.R_mono (Kd.R_far (p := ⟨gbz2, 7, none⟩) (Kd.R_far (p := ⟨gbz2, 6, none⟩) (Kd.R_far (p := ⟨gbz2, 5, none⟩) (Kd.R_far (p := ⟨gbz2, 4, none⟩) (Kd.R_far (p := ⟨gbz2, 3, none⟩) (Kd.R_far (p := ⟨gbz2, 2, none⟩) (Kd.R_far (p := ⟨gbz2, 1, none⟩) (Kd.R_far (p := ⟨gbz2, 0, none⟩) (Kd.R_types HOz11.out BKz2.out (by decide)) (fun _ hk => hk.2) (.slice Aoz7 t124.length coz7)) (fun _ hk => hk.2) (.slice Aoz8 t127.length coz8)) (fun _ hk => hk.2) (.slice Aoz9 t130.length coz9)) (fun _ hk => hk.2) (.int .i64 t133)) (fun _ hk => hk.2) (.slice Aoz10 t134.length coz10)) (fun _ hk => hk.2) (.slice Aoz11 t137.length coz11)) (fun _ hk => hk.2) (.slice Aoz12 t140.length coz12)) (fun _ hk => hk.2) (.int .i64 t143)) (fun _ h_ => h_.1)))) hb); replace HOz12 := Aside0.mk (Kd.R_below (rT (h := by exact (Kd.R_mono (Kd.R_far (p := ⟨gbz2, 7, none⟩) (Kd.R_far (p := ⟨gbz2, 6, none⟩) (Kd.R_far (p := ⟨gbz2, 5, none⟩) (Kd.R_far (p := ⟨gbz2, 4, none⟩) (Kd.R_far (p := ⟨gbz2, 3, none⟩) (Kd.R_far (p := ⟨gbz2, 2, none⟩) (Kd.R_far (p := ⟨gbz2, 1, none⟩) (Kd.R_far (p := ⟨gbz2, 0, none⟩) (Kd.R_types HOz12.out BKz2.out (by decide)) (fun _ hk => hk.2) (.slice Aoz7 t124.length coz7)) (fun _ hk => hk.2) (.slice Aoz8 t127.length coz8)) (fun _ hk => hk.2) (.slice Aoz9 t130.length coz9)) (fun _ hk => hk.2) (.int .i64 t133)) (fun _ hk => hk.2) (.slice Aoz10 t134.length coz10)) (fun _ hk => hk.2) (.slice Aoz11 t137.length coz11)) (fun _ hk => hk.2) (.slice Aoz12 t140.length coz12)) (fun _ hk => hk.2) (.int .i64 t143)) (fun _ h_ => h_.1)))) hb); replace BKz1 := Aside0.mk (blk_below (bF BKz1.out) hb); replace BKz2 := Aside0.mk (blk_below (g := gbz2) (o := .cells #[.slice Aoz7 t124.length coz7, .slice Aoz8 t127.length coz8, .slice Aoz9 t130.length coz9, .int .i64 t133, .slice Aoz10 t134.length coz10, .slice Aoz11 t137.length coz11, .slice Aoz12 t140.length coz12, .int .i64 t143] 43 (0, 0)) (bP BKz2.out) hb); replace HB := Aside0.mk (below_step (hX HB.out) hb); clear hb; refine Stop.out ?_))
    refine ⟨?_⟩
    by_cases c11 : t145.toList = t123.toList
    · rw [if_pos c11] at H
      obtain ⟨c11b0, c11b1⟩ := eqT c11
      clear c11
      replace H := bE H; obtain ⟨⟨t146, t149, t152, t155, t156, t159, t162, t165⟩, A12, H⟩ := H
      try dsimp only at H
      replace H := bE H; obtain ⟨t166, A13, H⟩ := H
      try go_wp2
      replace HOz1 := Aside0.mk (Kd.R_drew HOz1.out)
      replace HOz2 := Aside0.mk (Kd.S_drew HOz2.out)
      replace HOz3 := Aside0.mk (Kd.S_drew HOz3.out)
      replace HOz4 := Aside0.mk (Kd.S_drew HOz4.out)
      replace HOz5 := Aside0.mk (Kd.R_drew HOz5.out)
      replace HOz6 := Aside0.mk (Kd.R_drew HOz6.out)
      replace HOz7 := Aside0.mk (Kd.R_drew HOz7.out)
      replace HOz8 := Aside0.mk (Kd.S_drew HOz8.out)
      replace HOz9 := Aside0.mk (Kd.S_drew HOz9.out)
      replace HOz10 := Aside0.mk (Kd.S_drew HOz10.out)
      replace HOz11 := Aside0.mk (Kd.R_drew HOz11.out)
      replace HOz12 := Aside0.mk (Kd.R_drew HOz12.out)
      replace BKz1 := Aside0.mk (blk_drew BKz1.out)
      replace BKz2 := Aside0.mk (blk_drew BKz2.out)
      replace HB := Aside0.mk (below_drew1 HB.out)
      refine start_ (n := 5) (S := fun w' => w'.cell? ⟨gbz2, 0, none⟩ = some (.slice Aoz7 t124.length coz7) ∧ w'.cell? ⟨gbz2, 1, none⟩ = some (.slice Aoz8 t127.length coz8) ∧ w'.cell? ⟨gbz2, 2, none⟩ = some (.slice Aoz9 t130.length coz9) ∧ w'.cell? ⟨gbz2, 3, none⟩ = some (.int .i64 t133) ∧ w'.cell? ⟨gbz2, 4, none⟩ = some (.slice Aoz10 t134.length coz10) ∧ w'.cell? ⟨gbz2, 5, none⟩ = some (.slice Aoz11 t137.length coz11) ∧ w'.cell? ⟨gbz2, 6, none⟩ = some (.slice Aoz12 t140.length coz12) ∧ w'.cell? ⟨gbz2, 7, none⟩ = some (.int .i64 t143) ∧ w'.cell? ⟨gbz1, 0, none⟩ = some (.slice A0_0 l0_0.length c0_0) ∧ w'.cell? ⟨gbz1, 1, none⟩ = some (.slice A0_1 l0_1.length c0_1) ∧ w'.cell? ⟨gbz1, 2, none⟩ = some (.slice A0_2 l0_2.length c0_2) ∧ w'.cell? ⟨gbz1, 3, none⟩ = some (.int .i64 a0_3) ∧ w'.cell? ⟨gbz1, 4, none⟩ = some (.slice A0_4 l0_4.length c0_4) ∧ w'.cell? ⟨gbz1, 5, none⟩ = some (.slice A0_5 l0_5.length c0_5) ∧ w'.cell? ⟨gbz1, 6, none⟩ = some (.slice A0_6 l0_6.length c0_6) ∧ w'.cell? ⟨gbz1, 7, none⟩ = some (.int .i64 a0_7)) (ds := []) (bm 5 0) (by kernel_rfl) rfl (by kernel_rfl) ⟨cK BKz2.out 0, cK BKz2.out 1, cK BKz2.out 2, cK BKz2.out 3, cK BKz2.out 4, cK BKz2.out 5, cK BKz2.out 6, cK BKz2.out 7, cK BKz1.out 0, cK BKz1.out 1, cK BKz1.out 2, cK BKz1.out 3, cK BKz1.out 4, cK BKz1.out 5, cK BKz1.out 6, cK BKz1.out 7⟩ (fun hHeld => ?_)
      generalize wz7.drew = wz8 at HOz1 HOz2 HOz3 HOz4 HOz5 HOz6 HOz7 HOz8 HOz9 HOz10 HOz11 HOz12 BKz1 BKz2 HB hHeld ⊢
      refine tK 0 22 (bm 5 1) hHeld ?_
      refine tK 1 23 (bm 5 3) hHeld ?_
      refine oK 2 (some 24) (bm 5 7) (fun K hK => ?_)
      refine goesN Tryz.func12 #[.agg #[.slice A0_0 l0_0.length c0_0, .slice A0_1 l0_1.length c0_1, .slice A0_2 l0_2.length c0_2, .int .i64 a0_3, .slice A0_4 l0_4.length c0_4, .slice A0_5 l0_5.length c0_5, .slice A0_6 l0_6.length c0_6, .int .i64 a0_7]] ?_
      with_reducible refine (laws_toMachine.calls k _ _ l0_0 _ _ l0_1 _ _ l0_2 a0_3 _ _ l0_4 _ _ l0_5 _ _ l0_6 a0_7 t146 t149 t152 t155 t156 t159 t162 t165 _ ?side1 ?side2 ?side3 ?side4 ?side5 ?side6 ?side7 ?side8 ?side9 ?side10 ?side11 ?side12 A12.out).mono ?_
      (case side1 => repeat (first | exact (Kd.C_below HR0_0.out HB.out) | (with_reducible refine Kd.C_alloc ?_ _) | (with_reducible refine Kd.C_drewN ?_ _) | (with_reducible refine Kd.C_drew ?_)))
      (case side2 => exact HC0_0.out)
      (case side3 => repeat (first | exact (Kd.C_below HR0_1.out HB.out) | (with_reducible refine Kd.C_alloc ?_ _) | (with_reducible refine Kd.C_drewN ?_ _) | (with_reducible refine Kd.C_drew ?_)))
      (case side4 => exact HC0_1.out)
      (case side5 => repeat (first | exact (Kd.C_below HR0_2.out HB.out) | (with_reducible refine Kd.C_alloc ?_ _) | (with_reducible refine Kd.C_drewN ?_ _) | (with_reducible refine Kd.C_drew ?_)))
      (case side6 => exact HC0_2.out)
      (case side7 => repeat (first | exact (Kd.C_below HR0_4.out HB.out) | (with_reducible refine Kd.C_alloc ?_ _) | (with_reducible refine Kd.C_drewN ?_ _) | (with_reducible refine Kd.C_drew ?_)))
      (case side8 => exact HC0_4.out)
      (case side9 => repeat (first | exact (Kd.C_below HR0_5.out HB.out) | (with_reducible refine Kd.C_alloc ?_ _) | (with_reducible refine Kd.C_drewN ?_ _) | (with_reducible refine Kd.C_drew ?_)))
      (case side10 => exact HC0_5.out)
      (case side11 => repeat (first | exact (Kd.C_below HR0_6.out HB.out) | (with_reducible refine Kd.C_alloc ?_ _) | (with_reducible refine Kd.C_drewN ?_ _) | (with_reducible refine Kd.C_drew ?_)))
      (case side12 => exact HC0_6.out)
      rintro e wz9 ⟨vz13, vz14, vz15, vz16, vz17, vz18, rfl, hoz1, hoz2, hoz3, hoz4, hoz5, hoz6, hb⟩
      refine ⟨_, rfl, ?_⟩
      have HOz13 := Aside0.mk (Kd.R_lower (Kd.R_new' (Kd.R_new' hoz1 (Kd.R_lt (rX HOz1.out))) (Kd.R_lt (rX HOz7.out))) (below_size (hX HB.out)))
      have HOz14 := Aside0.mk (Kd.S_lower (Kd.S_new' (Kd.S_new' (Kd.S_new' (Kd.S_new' (Kd.S_new' (Kd.S_new' hoz2 (Kd.S_lt (sX HOz2.out))) (Kd.R_lt (rX HOz5.out))) (Kd.R_lt (rX HOz6.out))) (Kd.S_lt (sX HOz8.out))) (Kd.R_lt (rX HOz11.out))) (Kd.R_lt (rX HOz12.out))) (below_size (hX HB.out)))
      have HOz15 := Aside0.mk (Kd.S_lower (Kd.S_new' (Kd.S_new' hoz3 (Kd.S_lt (sX HOz3.out))) (Kd.S_lt (sX HOz9.out))) (below_size (hX HB.out)))
      have HOz16 := Aside0.mk (Kd.S_lower (Kd.S_new' (Kd.S_new' (Kd.S_new' (Kd.S_new' (Kd.S_new' (Kd.S_new' hoz4 (Kd.S_lt (sX HOz4.out))) (Kd.R_lt (rX HOz5.out))) (Kd.R_lt (rX HOz6.out))) (Kd.S_lt (sX HOz10.out))) (Kd.R_lt (rX HOz11.out))) (Kd.R_lt (rX HOz12.out))) (below_size (hX HB.out)))
      have HOz17 := Aside0.mk (Kd.R_lower (Kd.R_new' (Kd.R_new' (Kd.R_new' (Kd.R_new' hoz5 (Kd.R_lt (rX HOz5.out))) (Kd.R_lt (rX HOz6.out))) (Kd.R_lt (rX HOz11.out))) (Kd.R_lt (rX HOz12.out))) (below_size (hX HB.out)))
      have HOz18 := Aside0.mk (Kd.R_lower (Kd.R_new' (Kd.R_new' (Kd.R_new' (Kd.R_new' hoz6 (Kd.R_lt (rX HOz5.out))) (Kd.R_lt (rX HOz6.out))) (Kd.R_lt (rX HOz11.out))) (Kd.R_lt (rX HOz12.out))) (below_size (hX HB.out)))
      replace HOz1 := Aside0.mk (Kd.R_elder' (rX HOz1.out) (Kd.R_base hoz1) hb)
      replace HOz2 := Aside0.mk (Kd.S_mono (Kd.S_told (Kd.S_told (Kd.S_told (Kd.S_old (sX HOz2.out) hb) (Kd.S_base hoz2)) (Kd.R_base hoz5)) (Kd.R_base hoz6)) (fun _ h_ => h_.1))
      replace HOz3 := Aside0.mk (Kd.S_elder' (sX HOz3.out) (Kd.S_base hoz3) hb)
      replace HOz4 := Aside0.mk (Kd.S_mono (Kd.S_told (Kd.S_told (Kd.S_told (Kd.S_old (sX HOz4.out) hb) (Kd.S_base hoz4)) (Kd.R_base hoz5)) (Kd.R_base hoz6)) (fun _ h_ => h_.1))
      replace HOz5 := Aside0.mk (Kd.R_mono (Kd.R_told (Kd.R_told (Kd.R_old (rX HOz5.out) hb) (Kd.R_base hoz5)) (Kd.R_base hoz6)) (fun _ h_ => h_.1))
      replace HOz6 := Aside0.mk (Kd.R_mono (Kd.R_told (Kd.R_told (Kd.R_old (rX HOz6.out) hb) (Kd.R_base hoz5)) (Kd.R_base hoz6)) (fun _ h_ => h_.1))
      replace HOz7 := Aside0.mk (Kd.R_elder' (rX HOz7.out) (Kd.R_base hoz1) hb)
      replace HOz8 := Aside0.mk (Kd.S_mono (Kd.S_told (Kd.S_told (Kd.S_told (Kd.S_old (sX HOz8.out) hb) (Kd.S_base hoz2)) (Kd.R_base hoz5)) (Kd.R_base hoz6)) (fun _ h_ => h_.1))
      replace HOz9 := Aside0.mk (Kd.S_elder' (sX HOz9.out) (Kd.S_base hoz3) hb)
      replace HOz10 := Aside0.mk (Kd.S_mono (Kd.S_told (Kd.S_told (Kd.S_told (Kd.S_old (sX HOz10.out) hb) (Kd.S_base hoz4)) (Kd.R_base hoz5)) (Kd.R_base hoz6)) (fun _ h_ => h_.1))
      replace HOz11 := Aside0.mk (Kd.R_mono (Kd.R_told (Kd.R_told (Kd.R_old (rX HOz11.out) hb) (Kd.R_base hoz5)) (Kd.R_base hoz6)) (fun _ h_ => h_.1))
      replace HOz12 := Aside0.mk (Kd.R_mono (Kd.R_told (Kd.R_told (Kd.R_old (rX HOz12.out) hb) (Kd.R_base hoz5)) (Kd.R_base hoz6)) (fun _ h_ => h_.1))
      replace BKz1 := Aside0.mk (blk_below (bX BKz1.out) hb)
      replace BKz2 := Aside0.mk (blk_below (bX BKz2.out) hb)
      replace HB := Aside0.mk (below_step (hX HB.out) hb)
      (try clear hb)
      (try clear hb2)
      (try clear hk)
      (try clear hi)
      (try clear hoz1)
      (try clear hoz2)
      (try clear hoz3)
      (try clear hoz4)
      (try clear hoz5)
      (try clear hoz6)
      obtain ⟨Aoz13, coz13, eoz13⟩ := Kd.R_slice HOz13.out
      (first | subst eoz13 | (injection eoz13 with f1_ f2_ f3_; have fz1 := f1_.symm; have fz2 := f3_.symm; clear f1_ f2_ f3_; subst fz1; subst fz2))
      obtain ⟨Aoz14, coz14, eoz14⟩ := Kd.S_slice HOz14.out
      (first | subst eoz14 | (injection eoz14 with f1_ f2_ f3_; have fz1 := f1_.symm; have fz2 := f3_.symm; clear f1_ f2_ f3_; subst fz1; subst fz2))
      obtain ⟨Aoz15, coz15, eoz15⟩ := Kd.S_slice HOz15.out
      (first | subst eoz15 | (injection eoz15 with f1_ f2_ f3_; have fz1 := f1_.symm; have fz2 := f3_.symm; clear f1_ f2_ f3_; subst fz1; subst fz2))
      obtain ⟨Aoz16, coz16, eoz16⟩ := Kd.S_slice HOz16.out
      (first | subst eoz16 | (injection eoz16 with f1_ f2_ f3_; have fz1 := f1_.symm; have fz2 := f3_.symm; clear f1_ f2_ f3_; subst fz1; subst fz2))
      obtain ⟨Aoz17, coz17, eoz17⟩ := Kd.R_slice HOz17.out
      (first | subst eoz17 | (injection eoz17 with f1_ f2_ f3_; have fz1 := f1_.symm; have fz2 := f3_.symm; clear f1_ f2_ f3_; subst fz1; subst fz2))
      obtain ⟨Aoz18, coz18, eoz18⟩ := Kd.R_slice HOz18.out
      (first | subst eoz18 | (injection eoz18 with f1_ f2_ f3_; have fz1 := f1_.symm; have fz2 := f3_.symm; clear f1_ f2_ f3_; subst fz1; subst fz2))
      refine hK.out _ _ ⟨cK BKz2.out 0, cK BKz2.out 1, cK BKz2.out 2, cK BKz2.out 3, cK BKz2.out 4, cK BKz2.out 5, cK BKz2.out 6, cK BKz2.out 7, cK BKz1.out 0, cK BKz1.out 1, cK BKz1.out 2, cK BKz1.out 3, cK BKz1.out 4, cK BKz1.out 5, cK BKz1.out 6, cK BKz1.out 7⟩ (fun hHeld => ?_)
      clear hK K
      refine nZ 24 ?_
      by_cases c14 : t166 = true
      · subst c14
        rw [if_pos rfl] at H
        obtain rfl := Option.some.inj H
        refine oK 3 (some 25) (bm 5 15) (fun K hK => ?_)
        refine goesN Tryz.func14 #[.agg #[.slice Aoz7 t124.length coz7, .slice Aoz8 t127.length coz8, .slice Aoz9 t130.length coz9, .int .i64 t133, .slice Aoz10 t134.length coz10, .slice Aoz11 t137.length coz11, .slice Aoz12 t140.length coz12, .int .i64 t143], .agg #[.slice Aoz13 t146.length coz13, .slice Aoz14 t149.length coz14, .slice Aoz15 t152.length coz15, .int .i64 t155, .slice Aoz16 t156.length coz16, .slice Aoz17 t159.length coz17, .slice Aoz18 t162.length coz18, .int .i64 t165]] ?_
        with_reducible refine (laws_eqMachine.calls k _ _ t124 _ _ t127 _ _ t130 t133 _ _ t134 _ _ t137 _ _ t140 t143 _ _ t146 _ _ t149 _ _ t152 t155 _ _ t156 _ _ t159 _ _ t162 t165 true _ ?side1 ?side2 ?side3 ?side4 ?side5 ?side6 ?side7 ?side8 ?side9 ?side10 ?side11 ?side12 ?side13 ?side14 ?side15 ?side16 ?side17 ?side18 ?side19 ?side20 ?side21 ?side22 ?side23 ?side24 A13.out).mono ?_
        (case side1 => repeat (first | exact (Kd.R_reads' HOz7.out).2.2 | (with_reducible refine Kd.C_alloc ?_ _) | (with_reducible refine Kd.C_drewN ?_ _) | (with_reducible refine Kd.C_drew ?_)))
        (case side2 => exact (Kd.R_reads' HOz7.out).2.1)
        (case side3 => repeat (first | exact (Kd.S_reads' HOz8.out).2.2 | (with_reducible refine Kd.C_alloc ?_ _) | (with_reducible refine Kd.C_drewN ?_ _) | (with_reducible refine Kd.C_drew ?_)))
        (case side4 => exact (Kd.S_reads' HOz8.out).2.1)
        (case side5 => repeat (first | exact (Kd.S_reads' HOz9.out).2.2 | (with_reducible refine Kd.C_alloc ?_ _) | (with_reducible refine Kd.C_drewN ?_ _) | (with_reducible refine Kd.C_drew ?_)))
        (case side6 => exact (Kd.S_reads' HOz9.out).2.1)
        (case side7 => repeat (first | exact (Kd.S_reads' HOz10.out).2.2 | (with_reducible refine Kd.C_alloc ?_ _) | (with_reducible refine Kd.C_drewN ?_ _) | (with_reducible refine Kd.C_drew ?_)))
        (case side8 => exact (Kd.S_reads' HOz10.out).2.1)
        (case side9 => repeat (first | exact (Kd.R_reads' HOz11.out).2.2 | (with_reducible refine Kd.C_alloc ?_ _) | (with_reducible refine Kd.C_drewN ?_ _) | (with_reducible refine Kd.C_drew ?_)))
        (case side10 => exact (Kd.R_reads' HOz11.out).2.1)
        (case side11 => repeat (first | exact (Kd.R_reads' HOz12.out).2.2 | (with_reducible refine Kd.C_alloc ?_ _) | (with_reducible refine Kd.C_drewN ?_ _) | (with_reducible refine Kd.C_drew ?_)))
        (case side12 => exact (Kd.R_reads' HOz12.out).2.1)
        (case side13 => repeat (first | exact (Kd.R_reads' HOz13.out).2.2 | (with_reducible refine Kd.C_alloc ?_ _) | (with_reducible refine Kd.C_drewN ?_ _) | (with_reducible refine Kd.C_drew ?_)))
        (case side14 => exact (Kd.R_reads' HOz13.out).2.1)
        (case side15 => repeat (first | exact (Kd.S_reads' HOz14.out).2.2 | (with_reducible refine Kd.C_alloc ?_ _) | (with_reducible refine Kd.C_drewN ?_ _) | (with_reducible refine Kd.C_drew ?_)))
        (case side16 => exact (Kd.S_reads' HOz14.out).2.1)
        (case side17 => repeat (first | exact (Kd.S_reads' HOz15.out).2.2 | (with_reducible refine Kd.C_alloc ?_ _) | (with_reducible refine Kd.C_drewN ?_ _) | (with_reducible refine Kd.C_drew ?_)))
        (case side18 => exact (Kd.S_reads' HOz15.out).2.1)
        (case side19 => repeat (first | exact (Kd.S_reads' HOz16.out).2.2 | (with_reducible refine Kd.C_alloc ?_ _) | (with_reducible refine Kd.C_drewN ?_ _) | (with_reducible refine Kd.C_drew ?_)))
        (case side20 => exact (Kd.S_reads' HOz16.out).2.1)
        (case side21 => repeat (first | exact (Kd.R_reads' HOz17.out).2.2 | (with_reducible refine Kd.C_alloc ?_ _) | (with_reducible refine Kd.C_drewN ?_ _) | (with_reducible refine Kd.C_drew ?_)))
        (case side22 => exact (Kd.R_reads' HOz17.out).2.1)
        (case side23 => repeat (first | exact (Kd.R_reads' HOz18.out).2.2 | (with_reducible refine Kd.C_alloc ?_ _) | (with_reducible refine Kd.C_drewN ?_ _) | (with_reducible refine Kd.C_drew ?_)))
        (case side24 => exact (Kd.R_reads' HOz18.out).2.1)
        rintro e wz10 ⟨rfl, hb⟩
        refine ⟨_, rfl, ?_⟩
        replace HOz1 := Aside0.mk (Kd.R_below (rX HOz1.out) hb)
        replace HOz2 := Aside0.mk (Kd.S_below (sX HOz2.out) hb)
        replace HOz3 := Aside0.mk (Kd.S_below (sX HOz3.out) hb)
        replace HOz4 := Aside0.mk (Kd.S_below (sX HOz4.out) hb)
        replace HOz5 := Aside0.mk (Kd.R_below (rX HOz5.out) hb)
        replace HOz6 := Aside0.mk (Kd.R_below (rX HOz6.out) hb)
        replace HOz7 := Aside0.mk (Kd.R_below (rX HOz7.out) hb)
        replace HOz8 := Aside0.mk (Kd.S_below (sX HOz8.out) hb)
        replace HOz9 := Aside0.mk (Kd.S_below (sX HOz9.out) hb)
        replace HOz10 := Aside0.mk (Kd.S_below (sX HOz10.out) hb)
        replace HOz11 := Aside0.mk (Kd.R_below (rX HOz11.out) hb)
        replace HOz12 := Aside0.mk (Kd.R_below (rX HOz12.out) hb)
        replace HOz13 := Aside0.mk (Kd.R_below (rX HOz13.out) hb)
        replace HOz14 := Aside0.mk (Kd.S_below (sX HOz14.out) hb)
        replace HOz15 := Aside0.mk (Kd.S_below (sX HOz15.out) hb)
        replace HOz16 := Aside0.mk (Kd.S_below (sX HOz16.out) hb)
        replace HOz17 := Aside0.mk (Kd.R_below (rX HOz17.out) hb)
        replace HOz18 := Aside0.mk (Kd.R_below (rX HOz18.out) hb)
        replace BKz1 := Aside0.mk (blk_below (bX BKz1.out) hb)
        replace BKz2 := Aside0.mk (blk_below (bX BKz2.out) hb)
        replace HB := Aside0.mk (below_step (hX HB.out) hb)
        (try clear hb)
        (try clear hb2)
        (try clear hk)
        (try clear hi)
        refine hK.out _ _ ⟨cK BKz2.out 0, cK BKz2.out 1, cK BKz2.out 2, cK BKz2.out 3, cK BKz2.out 4, cK BKz2.out 5, cK BKz2.out 6, cK BKz2.out 7, cK BKz1.out 0, cK BKz1.out 1, cK BKz1.out 2, cK BKz1.out 3, cK BKz1.out 4, cK BKz1.out 5, cK BKz1.out 6, cK BKz1.out 7⟩ (fun hHeld => ?_)
        clear hK K
        refine nZ 25 ?_
        refine pK 4 26 (bm 5 31) ?_
        refine done_ (by kernel_rfl) ?_
        try go_wp2
        go_ret
        exact ⟨rE, (hX HB.out)⟩
      · replace c14 := Bool.eq_false_iff.mpr c14
        subst c14
        rw [if_neg nft] at H
        obtain rfl := Option.some.inj H
        refine oK 3 (some 25) (bm 5 15) (fun K hK => ?_)
        refine goesN Tryz.func14 #[.agg #[.slice Aoz7 t124.length coz7, .slice Aoz8 t127.length coz8, .slice Aoz9 t130.length coz9, .int .i64 t133, .slice Aoz10 t134.length coz10, .slice Aoz11 t137.length coz11, .slice Aoz12 t140.length coz12, .int .i64 t143], .agg #[.slice Aoz13 t146.length coz13, .slice Aoz14 t149.length coz14, .slice Aoz15 t152.length coz15, .int .i64 t155, .slice Aoz16 t156.length coz16, .slice Aoz17 t159.length coz17, .slice Aoz18 t162.length coz18, .int .i64 t165]] ?_
        with_reducible refine (laws_eqMachine.calls k _ _ t124 _ _ t127 _ _ t130 t133 _ _ t134 _ _ t137 _ _ t140 t143 _ _ t146 _ _ t149 _ _ t152 t155 _ _ t156 _ _ t159 _ _ t162 t165 false _ ?side1 ?side2 ?side3 ?side4 ?side5 ?side6 ?side7 ?side8 ?side9 ?side10 ?side11 ?side12 ?side13 ?side14 ?side15 ?side16 ?side17 ?side18 ?side19 ?side20 ?side21 ?side22 ?side23 ?side24 A13.out).mono ?_
        (case side1 => repeat (first | exact (Kd.R_reads' HOz7.out).2.2 | (with_reducible refine Kd.C_alloc ?_ _) | (with_reducible refine Kd.C_drewN ?_ _) | (with_reducible refine Kd.C_drew ?_)))
        (case side2 => exact (Kd.R_reads' HOz7.out).2.1)
        (case side3 => repeat (first | exact (Kd.S_reads' HOz8.out).2.2 | (with_reducible refine Kd.C_alloc ?_ _) | (with_reducible refine Kd.C_drewN ?_ _) | (with_reducible refine Kd.C_drew ?_)))
        (case side4 => exact (Kd.S_reads' HOz8.out).2.1)
        (case side5 => repeat (first | exact (Kd.S_reads' HOz9.out).2.2 | (with_reducible refine Kd.C_alloc ?_ _) | (with_reducible refine Kd.C_drewN ?_ _) | (with_reducible refine Kd.C_drew ?_)))
        (case side6 => exact (Kd.S_reads' HOz9.out).2.1)
        (case side7 => repeat (first | exact (Kd.S_reads' HOz10.out).2.2 | (with_reducible refine Kd.C_alloc ?_ _) | (with_reducible refine Kd.C_drewN ?_ _) | (with_reducible refine Kd.C_drew ?_)))
        (case side8 => exact (Kd.S_reads' HOz10.out).2.1)
        (case side9 => repeat (first | exact (Kd.R_reads' HOz11.out).2.2 | (with_reducible refine Kd.C_alloc ?_ _) | (with_reducible refine Kd.C_drewN ?_ _) | (with_reducible refine Kd.C_drew ?_)))
        (case side10 => exact (Kd.R_reads' HOz11.out).2.1)
        (case side11 => repeat (first | exact (Kd.R_reads' HOz12.out).2.2 | (with_reducible refine Kd.C_alloc ?_ _) | (with_reducible refine Kd.C_drewN ?_ _) | (with_reducible refine Kd.C_drew ?_)))
        (case side12 => exact (Kd.R_reads' HOz12.out).2.1)
        (case side13 => repeat (first | exact (Kd.R_reads' HOz13.out).2.2 | (with_reducible refine Kd.C_alloc ?_ _) | (with_reducible refine Kd.C_drewN ?_ _) | (with_reducible refine Kd.C_drew ?_)))
        (case side14 => exact (Kd.R_reads' HOz13.out).2.1)
        (case side15 => repeat (first | exact (Kd.S_reads' HOz14.out).2.2 | (with_reducible refine Kd.C_alloc ?_ _) | (with_reducible refine Kd.C_drewN ?_ _) | (with_reducible refine Kd.C_drew ?_)))
        (case side16 => exact (Kd.S_reads' HOz14.out).2.1)
        (case side17 => repeat (first | exact (Kd.S_reads' HOz15.out).2.2 | (with_reducible refine Kd.C_alloc ?_ _) | (with_reducible refine Kd.C_drewN ?_ _) | (with_reducible refine Kd.C_drew ?_)))
        (case side18 => exact (Kd.S_reads' HOz15.out).2.1)
        (case side19 => repeat (first | exact (Kd.S_reads' HOz16.out).2.2 | (with_reducible refine Kd.C_alloc ?_ _) | (with_reducible refine Kd.C_drewN ?_ _) | (with_reducible refine Kd.C_drew ?_)))
        (case side20 => exact (Kd.S_reads' HOz16.out).2.1)
        (case side21 => repeat (first | exact (Kd.R_reads' HOz17.out).2.2 | (with_reducible refine Kd.C_alloc ?_ _) | (with_reducible refine Kd.C_drewN ?_ _) | (with_reducible refine Kd.C_drew ?_)))
        (case side22 => exact (Kd.R_reads' HOz17.out).2.1)
        (case side23 => repeat (first | exact (Kd.R_reads' HOz18.out).2.2 | (with_reducible refine Kd.C_alloc ?_ _) | (with_reducible refine Kd.C_drewN ?_ _) | (with_reducible refine Kd.C_drew ?_)))
        (case side24 => exact (Kd.R_reads' HOz18.out).2.1)
        rintro e wz10 ⟨rfl, hb⟩
        refine ⟨_, rfl, ?_⟩
        replace HOz1 := Aside0.mk (Kd.R_below (rX HOz1.out) hb)
        replace HOz2 := Aside0.mk (Kd.S_below (sX HOz2.out) hb)
        replace HOz3 := Aside0.mk (Kd.S_below (sX HOz3.out) hb)
        replace HOz4 := Aside0.mk (Kd.S_below (sX HOz4.out) hb)
        replace HOz5 := Aside0.mk (Kd.R_below (rX HOz5.out) hb)
        replace HOz6 := Aside0.mk (Kd.R_below (rX HOz6.out) hb)
        replace HOz7 := Aside0.mk (Kd.R_below (rX HOz7.out) hb)
        replace HOz8 := Aside0.mk (Kd.S_below (sX HOz8.out) hb)
        replace HOz9 := Aside0.mk (Kd.S_below (sX HOz9.out) hb)
        replace HOz10 := Aside0.mk (Kd.S_below (sX HOz10.out) hb)
        replace HOz11 := Aside0.mk (Kd.R_below (rX HOz11.out) hb)
        replace HOz12 := Aside0.mk (Kd.R_below (rX HOz12.out) hb)
        replace HOz13 := Aside0.mk (Kd.R_below (rX HOz13.out) hb)
        replace HOz14 := Aside0.mk (Kd.S_below (sX HOz14.out) hb)
        replace HOz15 := Aside0.mk (Kd.S_below (sX HOz15.out) hb)
        replace HOz16 := Aside0.mk (Kd.S_below (sX HOz16.out) hb)
        replace HOz17 := Aside0.mk (Kd.R_below (rX HOz17.out) hb)
        replace HOz18 := Aside0.mk (Kd.R_below (rX HOz18.out) hb)
        replace BKz1 := Aside0.mk (blk_below (bX BKz1.out) hb)
        replace BKz2 := Aside0.mk (blk_below (bX BKz2.out) hb)
        replace HB := Aside0.mk (below_step (hX HB.out) hb)
        (try clear hb)
        (try clear hb2)
        (try clear hk)
        (try clear hi)
        refine hK.out _ _ ⟨cK BKz2.out 0, cK BKz2.out 1, cK BKz2.out 2, cK BKz2.out 3, cK BKz2.out 4, cK BKz2.out 5, cK BKz2.out 6, cK BKz2.out 7, cK BKz1.out 0, cK BKz1.out 1, cK BKz1.out 2, cK BKz1.out 3, cK BKz1.out 4, cK BKz1.out 5, cK BKz1.out 6, cK BKz1.out 7⟩ (fun hHeld => ?_)
        clear hK K
        refine nZ 25 ?_
        refine pK 4 26 (bm 5 31) ?_
        refine done_ (by kernel_rfl) ?_
        try go_wp2
        go_ret
        exact ⟨rE, (hX HB.out)⟩
    · rw [if_neg c11] at H
      obtain ⟨c11b0, c11b1⟩ := eqF c11
      obtain rfl := Option.some.inj H
      go_wp2
      go_ret
      exact ⟨rE, (hX HB.out)⟩
end Go.Proofs.YtmljebgideecjaaGreat.P
namespace Go.Proofs.YtmljebgideecjaaGreatZ
open Go.RowKit Go.Proofs.YtmljebgideecjaaGreatW.PrintWords Go.Proofs.YtmljebgideecjaaGreatW.PrintLast
def Opens {α : Type} (P : Program) (t : TypeId) (d : Kd α) (wf : α → Prop) : Prop :=
  ∀ (H : Type) (enc : TypeId × Value → H) (w : World) (fuel : Nat) (cs : List Value) (x : DataW H × List MemPlace),
    DataW.trod enc P w 0 (fun _ => true) true fuel t cs = some x → ∃ a, d.K w a cs ∧ wf a
theorem Opens.int {P : Program} {t : TypeId} {k : IntKind} (hu : P.underlying t = some (.int k)) : Opens P t (Kd.int k) (fun n => (Lit.int k n).wf = true) := by
  intro H enc w fuel cs x h
  obtain ⟨n, rfl, _, hw⟩ := DataW.trod_int hu h
  exact ⟨n, rfl, hw⟩
theorem Opens.bool {P : Program} {t : TypeId} (hu : P.underlying t = some .bool) : Opens P t Kd.bool (fun _ => True) := by
  intro H enc w fuel cs x h
  obtain ⟨n, rfl, _⟩ := DataW.trod_bool hu h
  exact ⟨n, rfl, trivial⟩
theorem Opens.string {P : Program} {t : TypeId} (hu : P.underlying t = some .string) : Opens P t Kd.string (fun s => s.size ≤ 9223372036854775807) := by
  intro H enc w fuel cs x h
  obtain ⟨n, rfl, _, hw⟩ := DataW.trod_string hu h
  exact ⟨n, rfl, by simpa [maxLen] using hw⟩
theorem exists_list {α : Type} (Q : Nat → α → Prop) : ∀ n, (∀ i, i < n → ∃ y, Q i y) → ∃ xs : List α, xs.length = n ∧ ∀ j p, xs[j]? = some p → Q j p
  | 0, _ => ⟨[], rfl, fun j p h => by simp at h⟩
  | n + 1, h => by
    obtain ⟨xs, hl, hx⟩ := exists_list Q n (fun i hi => h i (by omega))
    obtain ⟨y, hy⟩ := h n (by omega)
    refine ⟨xs ++ [y], by simp [hl], fun j p hj => ?_⟩
    by_cases hjn : j < n
    · rw [List.getElem?_append_left (by omega)] at hj
      exact hx j p hj
    · have hlt := (List.getElem?_eq_some_iff.1 hj).1
      rw [List.length_append, List.length_singleton, hl] at hlt
      obtain rfl : j = n := by omega
      rw [List.getElem?_append_right (by omega), hl, Nat.sub_self] at hj
      obtain rfl : y = p := by simpa using hj
      exact hy
theorem Opens.slice {α : Type} {P : Program} {t e : TypeId} {d : Kd α} {wf : α → Prop} (e' : Nat) (hu : P.underlying t = some (.slice e)) (hc : P.cellsOf e = d.sz) (he : Opens P e d wf) :
    Opens P t (Kd.slice e' d) (fun xs => xs.length ≤ 9223372036854775807 ∧ ∀ a ∈ xs, wf a) := by
  intro H enc w fuel cs x h
  rcases DataW.trod_slice hu h with ⟨rfl, _⟩ | ⟨a, len, cap, elems, rest, n, _, rfl, _, hb, hl, hm, hlen, hel, _, _⟩
  · exact ⟨[], ⟨none, 0, rfl, Nat.le_refl _, Kd.C_nil _ _⟩, by simp⟩
  · have each : ∀ i, i < len → ∃ y, wf y ∧ ∃ c, c.length = d.sz ∧ d.K w y c ∧ ∀ j u, c[j]? = some u → w.cell? (a.add (i * d.sz + j)) = some u := by
      intro i hi
      have h1 := hel i hi
      rw [List.getElem?_eq_getElem (by omega), hc, Option.bind_eq_some_iff] at h1
      obtain ⟨c, hcs, hy⟩ := h1
      obtain ⟨y, hK, hw⟩ := he _ _ _ _ _ _ hy
      refine ⟨y, hw, c, d.K_len hK, hK, fun j u hj => ?_⟩
      have h2 := World.cells?_some hcs
      rw [← Addr.add_add]
      have hjl := (List.getElem?_eq_some_iff.1 hj).1
      rw [← hj]
      exact (h2.2.2 j (by rw [← h2.2.1]; exact hjl))
    obtain ⟨xs, hxl, hxs⟩ := exists_list _ len each
    simp only [maxLen] at hm
    refine ⟨xs, ⟨some a, cap, by rw [hxl], by omega, rfl, by omega, fun _ => ⟨a, rfl, fun j p hj => ?_⟩⟩, by omega, fun y hy => ?_⟩
    · obtain ⟨_, c, hcl, hK, hcell⟩ := hxs j p hj
      exact ⟨c, hcl, hK, hcell⟩
    · obtain ⟨j, hj⟩ := List.getElem?_of_mem hy
      exact (hxs j y hj).1
def OpensF {α : Type} (P : Program) (fs : Array Field) (o : Nat) (d : Kd α) (wf : α → Prop) : Prop :=
  ∀ (H : Type) (enc : TypeId × Value → H) (w : World) (fuel : Nat) (cs : List Value) (xs : List (DataW H × List MemPlace)), cs.length = o + d.sz → xs.length = fs.size →
    (∀ (j : Nat) (f : Field), fs[j]? = some f → DataW.trod enc P w 0 (fun _ => true) true fuel f.type ((cs.drop f.offset).take (P.cellsOf f.type)) = xs[j]?) → ∃ a, d.K w a (cs.drop o) ∧ wf a
theorem OpensF.last {α : Type} {P : Program} {fs : Array Field} {o : Nat} {d : Kd α} {wf : α → Prop} (i : Nat) (f : Field) (hf : fs[i]? = some f) (ho : f.offset = o) (hc : P.cellsOf f.type = d.sz) (h : Opens P f.type d wf) : OpensF P fs o d wf := by
  intro H enc w fuel cs xs hl hx hall
  have h1 := hall i f hf
  have hi : i < xs.length := by rw [hx]; exact (Array.getElem?_eq_some_iff.1 hf).1
  rw [List.getElem?_eq_getElem hi, ho, hc, List.take_of_length_le (by rw [List.length_drop]; omega)] at h1
  exact h _ _ _ _ _ _ h1
theorem OpensF.cons {α β : Type} {P : Program} {fs : Array Field} {o : Nat} {d : Kd α} {d' : Kd β} {wf : α → Prop} {wf' : β → Prop} (i : Nat) (f : Field) (hf : fs[i]? = some f) (ho : f.offset = o) (hc : P.cellsOf f.type = d.sz) (h : Opens P f.type d wf)
    (h' : OpensF P fs (o + d.sz) d' wf') : OpensF P fs o (Kd.pair d d') (fun x => wf x.1 ∧ wf' x.2) := by
  intro H enc w fuel cs xs hl hx hall
  have h1 := hall i f hf
  have hi : i < xs.length := by rw [hx]; exact (Array.getElem?_eq_some_iff.1 hf).1
  rw [List.getElem?_eq_getElem hi, ho, hc] at h1
  obtain ⟨a, hK, hw⟩ := h _ _ _ _ _ _ h1
  have hl' : cs.length = o + (d.sz + d'.sz) := hl
  obtain ⟨b, hK', hw'⟩ := h' H enc w fuel cs xs (by omega) hx hall
  refine ⟨(a, b), ⟨_, _, ?_, hK, hK'⟩, hw, hw'⟩
  rw [← List.drop_drop, List.take_append_drop]
theorem Opens.struct {α β : Type} {P : Program} {t : TypeId} {fs : Array Field} {d : Kd α} {wf : α → Prop} (f : β → α) (g : α → β) (hfg : ∀ a, f (g a) = a) (hu : P.underlying t = some (.struct fs)) (hc : P.cellsOf t = d.sz) (h : OpensF P fs 0 d wf) :
    Opens P t (Kd.iso d f) (fun b => wf (f b)) := by
  intro H enc w fuel cs x hx
  obtain ⟨xs, n, _, _, hl, hxl, hall⟩ := DataW.trod_struct hu hx
  obtain ⟨a, hK, hw⟩ := h H enc w n cs xs (by omega) hxl hall
  refine ⟨g a, ?_, ?_⟩
  · show d.K w (f (g a)) cs
    rw [hfg]; exact hK
  · show wf (f (g a))
    rw [hfg]; exact hw
theorem Opens.param {α : Type} {P : Program} {t : TypeId} {d : Kd α} {wf : α → Prop} (h : Opens P t d wf) {H : Type} {enc : TypeId × Value → H} {w : World} {v : Value} {D : DataW H} {ps : List MemPlace} (hv : DataW.Trod enc P w 0 (fun _ => true) true t v D ps) :
    ∃ a, d.K w a v.cells.toList ∧ wf a := by
  obtain ⟨fuel, hf⟩ := hv
  exact h _ _ _ _ _ _ hf
theorem okWide_agg {P : Program} {W : World} {r : Reach} {base : Nat} {t : TypeId} {v : Value} {fs : Array Field} (hu : P.underlying t = some (.struct fs)) (h : Value.okWide P W r base t v) : ∃ cs : Array Value, v = .agg cs := by
  unfold Value.okWide at h
  rw [hu] at h
  obtain ⟨cs, rfl, _⟩ := h
  exact ⟨cs, rfl⟩
end Go.Proofs.YtmljebgideecjaaGreatZ
namespace Go.Proofs.YtmljebgideecjaaGreat.P
open Go.RowKit Go.Proofs.YtmljebgideecjaaGreatW.PrintWords Go.Proofs.YtmljebgideecjaaGreatW.PrintLast Go.Proofs.YtmljebgideecjaaGreatZ
def wf176 (x : S176) : Prop := (Lit.int .i64 x.f0).wf = true ∧ (Lit.int .i64 x.f1).wf = true ∧ (Lit.int .i64 x.f2).wf = true
theorem op176 : Opens Tryz.prog 176 k176 wf176 := Opens.struct (fun x : S176 => (x.f0, x.f1, x.f2)) (fun a => ⟨a.1, a.2.1, a.2.2⟩) (fun _ => rfl) Tryz.underlying176 (by kernel_rfl) (OpensF.cons 0 _ rfl rfl (by kernel_rfl) (Opens.int Tryz.underlying3) (OpensF.cons 1 _ rfl rfl (by kernel_rfl) (Opens.int Tryz.underlying3) (OpensF.last 2 _ rfl rfl (by kernel_rfl) (Opens.int Tryz.underlying3))))
def wf224 (x : S224) : Prop := (Lit.int .i64 x.f0).wf = true ∧ (Lit.int .i64 x.f1).wf = true ∧ (Lit.int .i64 x.f2).wf = true
theorem op224 : Opens Tryz.prog 224 k224 wf224 := Opens.struct (fun x : S224 => (x.f0, x.f1, x.f2)) (fun a => ⟨a.1, a.2.1, a.2.2⟩) (fun _ => rfl) Tryz.underlying224 (by kernel_rfl) (OpensF.cons 0 _ rfl rfl (by kernel_rfl) (Opens.int Tryz.underlying3) (OpensF.cons 1 _ rfl rfl (by kernel_rfl) (Opens.int Tryz.underlying3) (OpensF.last 2 _ rfl rfl (by kernel_rfl) (Opens.int Tryz.underlying3))))
def wf117 (x : S117) : Prop := (Lit.int .i64 x.f0).wf = true ∧ (x.f1.length ≤ 9223372036854775807 ∧ ∀ y ∈ x.f1, (Lit.int .i64 y).wf = true)
theorem op117 : Opens Tryz.prog 117 k117 wf117 := Opens.struct (fun x : S117 => (x.f0, x.f1)) (fun a => ⟨a.1, a.2⟩) (fun _ => rfl) Tryz.underlying117 (by kernel_rfl) (OpensF.cons 0 _ rfl rfl (by kernel_rfl) (Opens.int Tryz.underlying3) (OpensF.last 1 _ rfl rfl (by kernel_rfl) (Opens.slice 3 Tryz.underlying28 (by kernel_rfl) (Opens.int Tryz.underlying3))))
def wf155 (x : S155) : Prop := (Lit.int .i64 x.f0).wf = true ∧ (Lit.int .i64 x.f1).wf = true ∧ (x.f2.length ≤ 9223372036854775807 ∧ ∀ y ∈ x.f2, wf224 y) ∧ wf117 x.f3
theorem op155 : Opens Tryz.prog 155 k155 wf155 := Opens.struct (fun x : S155 => (x.f0, x.f1, x.f2, x.f3)) (fun a => ⟨a.1, a.2.1, a.2.2.1, a.2.2.2⟩) (fun _ => rfl) Tryz.underlying155 (by kernel_rfl) (OpensF.cons 0 _ rfl rfl (by kernel_rfl) (Opens.int Tryz.underlying3) (OpensF.cons 1 _ rfl rfl (by kernel_rfl) (Opens.int Tryz.underlying3) (OpensF.cons 2 _ rfl rfl (by kernel_rfl) (Opens.slice 224 Tryz.underlying153 (by kernel_rfl) (op224)) (OpensF.last 3 _ rfl rfl (by kernel_rfl) (op117)))))
def wf25 (x : S25) : Prop := (x.f0.length ≤ 9223372036854775807 ∧ ∀ y ∈ x.f0, wf176 y) ∧ (x.f1.length ≤ 9223372036854775807 ∧ ∀ y ∈ x.f1, wf155 y)
theorem op25 : Opens Tryz.prog 25 k25 wf25 := Opens.struct (fun x : S25 => (x.f0, x.f1)) (fun a => ⟨a.1, a.2⟩) (fun _ => rfl) Tryz.underlying25 (by kernel_rfl) (OpensF.cons 0 _ rfl rfl (by kernel_rfl) (Opens.slice 176 Tryz.underlying22 (by kernel_rfl) (op176)) (OpensF.last 1 _ rfl rfl (by kernel_rfl) (Opens.slice 155 Tryz.underlying23 (by kernel_rfl) (op155))))
def wf116 (x : S116) : Prop := (Lit.int .i64 x.f0).wf = true ∧ (Lit.int .i64 x.f1).wf = true ∧ (Lit.int .i64 x.f2).wf = true
theorem op116 : Opens Tryz.prog 116 k116 wf116 := Opens.struct (fun x : S116 => (x.f0, x.f1, x.f2)) (fun a => ⟨a.1, a.2.1, a.2.2⟩) (fun _ => rfl) Tryz.underlying116 (by kernel_rfl) (OpensF.cons 0 _ rfl rfl (by kernel_rfl) (Opens.int Tryz.underlying3) (OpensF.cons 1 _ rfl rfl (by kernel_rfl) (Opens.int Tryz.underlying3) (OpensF.last 2 _ rfl rfl (by kernel_rfl) (Opens.int Tryz.underlying3))))
def wf204 (x : S204) : Prop := (Lit.int .i64 x.f0).wf = true ∧ (Lit.int .i64 x.f1).wf = true
theorem op204 : Opens Tryz.prog 204 k204 wf204 := Opens.struct (fun x : S204 => (x.f0, x.f1)) (fun a => ⟨a.1, a.2⟩) (fun _ => rfl) Tryz.underlying204 (by kernel_rfl) (OpensF.cons 0 _ rfl rfl (by kernel_rfl) (Opens.int Tryz.underlying3) (OpensF.last 1 _ rfl rfl (by kernel_rfl) (Opens.int Tryz.underlying3)))
def wf206 (x : S206) : Prop := (Lit.int .i64 x.f0).wf = true ∧ (Lit.int .i64 x.f1).wf = true ∧ (Lit.int .i64 x.f2).wf = true ∧ (Lit.int .i64 x.f3).wf = true
theorem op206 : Opens Tryz.prog 206 k206 wf206 := Opens.struct (fun x : S206 => (x.f0, x.f1, x.f2, x.f3)) (fun a => ⟨a.1, a.2.1, a.2.2.1, a.2.2.2⟩) (fun _ => rfl) Tryz.underlying206 (by kernel_rfl) (OpensF.cons 0 _ rfl rfl (by kernel_rfl) (Opens.int Tryz.underlying3) (OpensF.cons 1 _ rfl rfl (by kernel_rfl) (Opens.int Tryz.underlying3) (OpensF.cons 2 _ rfl rfl (by kernel_rfl) (Opens.int Tryz.underlying3) (OpensF.last 3 _ rfl rfl (by kernel_rfl) (Opens.int Tryz.underlying3)))))
def wf114 (x : S114) : Prop := (x.f0.length ≤ 9223372036854775807 ∧ ∀ y ∈ x.f0, wf116 y) ∧ (Lit.int .i64 x.f1).wf = true ∧ True ∧ (x.f3.length ≤ 9223372036854775807 ∧ ∀ y ∈ x.f3, wf204 y) ∧ (x.f4.length ≤ 9223372036854775807 ∧ ∀ y ∈ x.f4, wf206 y)
theorem op114 : Opens Tryz.prog 114 k114 wf114 := Opens.struct (fun x : S114 => (x.f0, x.f1, x.f2, x.f3, x.f4)) (fun a => ⟨a.1, a.2.1, a.2.2.1, a.2.2.2.1, a.2.2.2.2⟩) (fun _ => rfl) Tryz.underlying114 (by kernel_rfl) (OpensF.cons 0 _ rfl rfl (by kernel_rfl) (Opens.slice 116 Tryz.underlying89 (by kernel_rfl) (op116)) (OpensF.cons 1 _ rfl rfl (by kernel_rfl) (Opens.int Tryz.underlying3) (OpensF.cons 2 _ rfl rfl (by kernel_rfl) (Opens.bool Tryz.underlying4) (OpensF.cons 3 _ rfl rfl (by kernel_rfl) (Opens.slice 204 Tryz.underlying111 (by kernel_rfl) (op204)) (OpensF.last 4 _ rfl rfl (by kernel_rfl) (Opens.slice 206 Tryz.underlying112 (by kernel_rfl) (op206)))))))
def wf119 (x : S119) : Prop := (Lit.int .i64 x.f0).wf = true ∧ wf116 x.f1 ∧ (Lit.int .i64 x.f2).wf = true ∧ (Lit.int .i64 x.f3).wf = true ∧ (Lit.int .i64 x.f4).wf = true ∧ wf117 x.f5
theorem op119 : Opens Tryz.prog 119 k119 wf119 := Opens.struct (fun x : S119 => (x.f0, x.f1, x.f2, x.f3, x.f4, x.f5)) (fun a => ⟨a.1, a.2.1, a.2.2.1, a.2.2.2.1, a.2.2.2.2.1, a.2.2.2.2.2⟩) (fun _ => rfl) Tryz.underlying119 (by kernel_rfl) (OpensF.cons 0 _ rfl rfl (by kernel_rfl) (Opens.int Tryz.underlying3) (OpensF.cons 1 _ rfl rfl (by kernel_rfl) (op116) (OpensF.cons 2 _ rfl rfl (by kernel_rfl) (Opens.int Tryz.underlying3) (OpensF.cons 3 _ rfl rfl (by kernel_rfl) (Opens.int Tryz.underlying3) (OpensF.cons 4 _ rfl rfl (by kernel_rfl) (Opens.int Tryz.underlying3) (OpensF.last 5 _ rfl rfl (by kernel_rfl) (op117)))))))
def wf30 (x : S30) : Prop := (x.f0.length ≤ 9223372036854775807 ∧ ∀ y ∈ x.f0, (Lit.int .i64 y).wf = true) ∧ (Lit.int .i64 x.f1).wf = true
theorem op30 : Opens Tryz.prog 30 k30 wf30 := Opens.struct (fun x : S30 => (x.f0, x.f1)) (fun a => ⟨a.1, a.2⟩) (fun _ => rfl) Tryz.underlying30 (by kernel_rfl) (OpensF.cons 0 _ rfl rfl (by kernel_rfl) (Opens.slice 3 Tryz.underlying28 (by kernel_rfl) (Opens.int Tryz.underlying3)) (OpensF.last 1 _ rfl rfl (by kernel_rfl) (Opens.int Tryz.underlying3)))
def wf32 (x : S32) : Prop := wf25 x.f0 ∧ (x.f1.length ≤ 9223372036854775807 ∧ ∀ y ∈ x.f1, wf114 y) ∧ (Lit.int .i64 x.f2).wf = true ∧ (x.f3.length ≤ 9223372036854775807 ∧ ∀ y ∈ x.f3, wf119 y) ∧ (x.f4.length ≤ 9223372036854775807 ∧ ∀ y ∈ x.f4, (Lit.int .i64 y).wf = true) ∧ wf30 x.f5
theorem op32 : Opens Tryz.prog 32 k32 wf32 := Opens.struct (fun x : S32 => (x.f0, x.f1, x.f2, x.f3, x.f4, x.f5)) (fun a => ⟨a.1, a.2.1, a.2.2.1, a.2.2.2.1, a.2.2.2.2.1, a.2.2.2.2.2⟩) (fun _ => rfl) Tryz.underlying32 (by kernel_rfl) (OpensF.cons 0 _ rfl rfl (by kernel_rfl) (op25) (OpensF.cons 1 _ rfl rfl (by kernel_rfl) (Opens.slice 114 Tryz.underlying26 (by kernel_rfl) (op114)) (OpensF.cons 2 _ rfl rfl (by kernel_rfl) (Opens.int Tryz.underlying3) (OpensF.cons 3 _ rfl rfl (by kernel_rfl) (Opens.slice 119 Tryz.underlying27 (by kernel_rfl) (op119)) (OpensF.cons 4 _ rfl rfl (by kernel_rfl) (Opens.slice 3 Tryz.underlying28 (by kernel_rfl) (Opens.int Tryz.underlying3)) (OpensF.last 5 _ rfl rfl (by kernel_rfl) (op30)))))))
end Go.Proofs.YtmljebgideecjaaGreat.P
namespace Go.Proofs.YtmljebgideecjaaGreat.P
open Go.RowKit Go.Proofs.YtmljebgideecjaaGreatW.PrintWords Go.Proofs.YtmljebgideecjaaGreatW.PrintLast Go.Proofs.YtmljebgideecjaaGreatZ
def PureFnExactMachineText : Prop := ∀ (x0 : S32), wf32 x0 → ∃ k, laws_FnExactMachineText.f k x0.f0.f0 x0.f0.f1 x0.f1 x0.f2 x0.f3 x0.f4 x0.f5.f0 x0.f5.f1 = some true
end Go.Proofs.YtmljebgideecjaaGreat.P
namespace Go.Proofs.YtmljebgideecjaaGreatW.PrintWords
section
variable {α : Type}
theorem Ev.shift {g : Nat → Option α} {r : α} (h : Ev (fun k => g (k + 1)) r) : Ev g r := Ev.step (fun _ => rfl) h
theorem Ev.val {a r : α} (h : a = r) : Ev (fun _ => some a) r := by subst h; exact Ev.now _
theorem Ev.of_eq {o : Option α} {r : α} (h : o = some r) : Ev (fun _ => o) r := by subst h; exact Ev.now _
theorem Ev.to {g : Nat → Option α} {a r : α} (h : Ev g a) (e : a = r) : Ev g r := e ▸ h
theorem Ev.pos {p : Prop} [Decidable p] {g f : Nat → Option α} {r : α} (h : p) (hg : Ev g r) : Ev (fun k => if p then g k else f k) r := by
  simp only [if_pos h]; exact hg
theorem Ev.neg {p : Prop} [Decidable p] {g f : Nat → Option α} {r : α} (h : ¬ p) (hf : Ev f r) : Ev (fun k => if p then g k else f k) r := by
  simp only [if_neg h]; exact hf
end
end Go.Proofs.YtmljebgideecjaaGreatW.PrintWords
namespace Go.Proofs.YtmljebgideecjaaGreatZ
open Go.RowKit Go.Proofs.YtmljebgideecjaaGreatW.PrintWords
theorem back {n : Nat} {Q : Nat → Prop} (hn : Q n) (hs : ∀ i, i < n → Q (i + 1) → Q i) : ∀ i, i ≤ n → Q i := by
  intro i hi
  obtain ⟨d, rfl⟩ : ∃ d, n = i + d := ⟨n - i, by omega⟩
  clear hi
  induction d generalizing i with
  | zero => exact hn
  | succ d ih =>
    refine hs i (by omega) (ih (i + 1) ?_ ?_)
    · rw [show i + 1 + d = i + (d + 1) by omega]; exact hn
    · intro j hj; exact hs j (by omega)
theorem w64 {n : Int} (h1 : -9223372036854775808 ≤ n) (h2 : n < 9223372036854775808) : wrap64 n = n := by unfold wrap64; omega
theorem i64_wf {n : Int} (h : (Lit.int .i64 n).wf = true) : -9223372036854775808 ≤ n ∧ n < 9223372036854775808 := by
  have := Go.bounds_i64 h; omega
theorem succ64 {i n : Nat} (h : i < n) (hn : n ≤ 9223372036854775807) : wrap64 ((i : Int) + 1) = ((i + 1 : Nat) : Int) := by
  rw [w64 (by omega) (by omega)]; simp
def lf (w t : Int) : Int := if w ≤ t then t - w else -1
theorem lf_pos {w t : Int} (h : w ≤ t) : lf w t = t - w := if_pos h
theorem lf_neg {w t : Int} (h : ¬ w ≤ t) : lf w t = -1 := if_neg h
section
variable {τ σ : Type}
def ctl (ct : τ → Int) : List τ → Int
  | [] => 0
  | x :: xs => ct x + ctl ct xs
theorem ctl_nonneg {ct : τ → Int} (h : ∀ x, 0 ≤ ct x) : ∀ l, 0 ≤ ctl ct l
  | [] => Int.le_refl 0
  | x :: xs => by have h1 := h x; have h2 := ctl_nonneg h xs; simp only [ctl]; omega
theorem get_mid (A : List τ) (x : τ) (B : List τ) : (A ++ x :: B)[A.length]? = some x := by
  rw [List.getElem?_append_right (Nat.le_refl _), Nat.sub_self]; rfl
theorem set_mid (A : List τ) (x y : τ) (B : List τ) : (A ++ x :: B).set A.length y = A ++ [y] ++ B := by
  rw [List.set_append_right _ _ (Nat.le_refl _), Nat.sub_self]; simp
theorem fill_ev (xs : List τ) (c : τ → σ) (z : σ) {g : Nat → List σ → Int → Option (List σ)} (hend : ∀ l : List σ, l.length = xs.length → Ev (fun k => g k l (xs.length : Int)) l)
    (hstep : ∀ (l : List σ) (i : Nat) (x : τ) (r : List σ), xs[i]? = some x → l.length = xs.length → i < xs.length → Ev (fun k => g k (l.set i (c x)) ((i + 1 : Nat) : Int)) r → Ev (fun k => g k l (i : Int)) r) :
    Ev (fun k => g k (List.replicate xs.length z) 0) (xs.map c) := by
  have key : ∀ (B A : List τ), xs = A ++ B → Ev (fun k => g k (A.map c ++ List.replicate B.length z) (A.length : Int)) (xs.map c) := by
    intro B
    induction B with
    | nil =>
      intro A hA
      rw [List.append_nil] at hA
      have := hend (xs.map c) (by simp)
      subst hA
      simp only [List.length_nil, List.replicate_zero, List.append_nil]
      exact this
    | cons x B ih =>
      intro A hA
      have h1 := ih (A ++ [x]) (by simp [hA])
      refine hstep _ A.length x _ (by rw [hA]; exact get_mid A x B) (by simp [hA]) (by simp [hA]) ?_
      have e : (A.map c ++ List.replicate (x :: B).length z).set A.length (c x) = (A ++ [x]).map c ++ List.replicate B.length z := by
        have := set_mid (A.map c) z (c x) (List.replicate B.length z)
        rw [List.length_map] at this
        simp only [List.length_cons, List.replicate_succ, List.map_append, List.map_cons, List.map_nil]
        exact this
      rw [e]
      simp only [List.length_append, List.length_singleton] at h1
      exact h1
  have := key xs [] rfl
  simpa using this
theorem look_ev (xs : List τ) {ρ : Type} (r : ρ) {g : Nat → Int → Option ρ} (hend : Ev (fun k => g k (xs.length : Int)) r)
    (hstep : ∀ (i : Nat) (x : τ), xs[i]? = some x → i < xs.length → Ev (fun k => g k ((i + 1 : Nat) : Int)) r → Ev (fun k => g k (i : Int)) r) : Ev (fun k => g k 0) r := by
  refine back (n := xs.length) (Q := fun i => Ev (fun k => g k (i : Int)) r) hend (fun i hi h => ?_) 0 (Nat.zero_le _)
  exact hstep i xs[i] (List.getElem?_eq_getElem hi) hi h
theorem size_ev (xs : List τ) (wt : τ → Int) (hw : ∀ x, 0 ≤ wt x) (M : Int) {g : Nat → Int → Int → Option Int} (hend : ∀ t, Ev (fun k => g k t (xs.length : Int)) t)
    (hneg : ∀ (t : Int) (i : Nat) (x : τ), xs[i]? = some x → i < xs.length → 0 ≤ t → t ≤ M → t < wt x → Ev (fun k => g k t (i : Int)) (-1))
    (hpos : ∀ (t : Int) (i : Nat) (x : τ) (r : Int), xs[i]? = some x → i < xs.length → 0 ≤ t → t ≤ M → wt x ≤ t → Ev (fun k => g k (t - wt x) ((i + 1 : Nat) : Int)) r → Ev (fun k => g k t (i : Int)) r) :
    ∀ t, 0 ≤ t → t ≤ M → Ev (fun k => g k t 0) (lf (ctl wt xs) t) := by
  have key : ∀ (B A : List τ), xs = A ++ B → ∀ t, 0 ≤ t → t ≤ M → Ev (fun k => g k t (A.length : Int)) (lf (ctl wt B) t) := by
    intro B
    induction B with
    | nil =>
      intro A hA t h0 h1
      rw [List.append_nil] at hA
      rw [← hA]
      refine (hend t).to ?_
      simp only [ctl]
      rw [lf_pos h0]
      omega
    | cons x B ih =>
      intro A hA t h0 h1
      have hx : xs[A.length]? = some x := by rw [hA]; exact get_mid A x B
      have hi : A.length < xs.length := by simp [hA]
      have hwx := hw x
      have hwB := ctl_nonneg hw B
      simp only [ctl]
      by_cases h : wt x ≤ t
      · have h2 := ih (A ++ [x]) (by simp [hA]) (t - wt x) (by omega) (by omega)
        rw [List.length_append, List.length_singleton] at h2
        have h3 := hpos t A.length x _ hx hi h0 h1 h h2
        by_cases h4 : ctl wt B ≤ t - wt x
        · rw [lf_pos h4] at h3; rw [lf_pos (by omega)]; exact h3.to (by omega)
        · rw [lf_neg h4] at h3; rw [lf_neg (by omega)]; exact h3
      · rw [lf_neg (by omega)]
        exact hneg t A.length x hx hi h0 h1 (by omega)
  intro t h0 h1
  exact key xs [] rfl t h0 h1
theorem getD_get {xs : List τ} {i : Nat} {x d : τ} (h : xs[i]? = some x) : xs.getD ((i : Int)).toNat d = x := by
  rw [Int.toNat_natCast, List.getD_eq_getElem?_getD, h]; rfl
end
theorem rd_get {xs : List Int} {i : Nat} {x : Int} (h : xs[i]? = some x) : rd xs i = x := getD_get h
end Go.Proofs.YtmljebgideecjaaGreatZ
section
set_option linter.unusedSimpArgs false
set_option linter.unusedVariables false
namespace Go.Proofs.YtmljebgideecjaaGreat.P
open Go.RowKit Go.Proofs.YtmljebgideecjaaGreatW.PrintWords Go.Proofs.YtmljebgideecjaaGreatW.PrintLast Go.Proofs.YtmljebgideecjaaGreatZ
abbrev lWord := S176
abbrev iWord := S140
def cWord (x : lWord) : iWord := ⟨x.f0, x.f1, x.f2⟩
theorem szWordS_eq (l : List lWord) (t : Int) (h0 : 0 ≤ t) (h1 : t ≤ 1048576) (hl : l.length ≤ 9223372036854775807) : laws_szWordS.f l t = some (lf (l.length : Int) t) := by
  have e : wrap64 (t - (l.length : Int)) = t - l.length := w64 (by omega) (by omega)
  unfold laws_szWordS.f lf
  rw [e]
  by_cases h : (l.length : Int) ≤ t
  · rw [if_neg (by omega), if_pos h]
  · rw [if_pos (by omega), if_neg h]
theorem toWordS_ev (l : List lWord) (hl : l.length ≤ 1048576) : Ev (fun k => laws_toWordS.f k l) (l.map cWord) := by
  have c1 : (0 : Int) ≤ (l.length : Int) := by omega
  simp only [laws_toWordS.f, c1, if_true, Int.toNat_natCast]
  refine Ev.pos (by omega) ?_
  refine fill_ev l cWord z140 (g := fun k s i => laws_toWordS.l0 k l s i) ?_ ?_
  · intro s hs
    refine Ev.shift ?_
    simp only [laws_toWordS.l0, Int.lt_irrefl, if_false]
    exact Ev.now _
  · intro s i x r hx hs hi h
    have hr : rd_T176 l (i : Int) = x := getD_get hx
    refine Ev.shift ?_
    have d1 : (i : Int) < (l.length : Int) := by omega
    have d2 : (0 : Int) ≤ (i : Int) := by omega
    have d3 : (i : Int) < (s.length : Int) := by omega
    simp only [laws_toWordS.l0, laws_toWord.f, Option.bind_some, d1, d2, d3, if_true, hr, Int.toNat_natCast, succ64 hi (by omega)]
    exact h
theorem eqWordS_ev (l : List iWord) (hl : l.length ≤ 9223372036854775807) : Ev (fun k => laws_eqWordS.f k l l) true := by
  simp only [laws_eqWordS.f, if_true]
  refine look_ev l true (g := fun k i => laws_eqWordS.l0 k l l i) ?_ ?_
  · refine Ev.shift ?_
    simp only [laws_eqWordS.l0, Int.lt_irrefl, if_false]
    exact Ev.now _
  · intro i x hx hi h
    refine Ev.shift ?_
    have d1 : (i : Int) < (l.length : Int) := by omega
    have d2 : (0 : Int) ≤ (i : Int) := by omega
    simp only [laws_eqWordS.l0, laws_eqWord.f, bne_self_eq_false, Bool.false_eq_true, if_false, Option.bind_some, d1, d2, if_true, succ64 hi hl]
    exact h
end Go.Proofs.YtmljebgideecjaaGreat.P
end
section
set_option linter.unusedSimpArgs false
set_option linter.unusedVariables false
namespace Go.Proofs.YtmljebgideecjaaGreat.P
open Go.RowKit Go.Proofs.YtmljebgideecjaaGreatW.PrintWords Go.Proofs.YtmljebgideecjaaGreatW.PrintLast Go.Proofs.YtmljebgideecjaaGreatZ
abbrev lEntry := S224
abbrev iEntry := S165
def cEntry (x : lEntry) : iEntry := ⟨x.f0, x.f1, x.f2⟩
theorem szEntryS_eq (l : List lEntry) (t : Int) (h0 : 0 ≤ t) (h1 : t ≤ 1048576) (hl : l.length ≤ 9223372036854775807) : laws_szEntryS.f l t = some (lf (l.length : Int) t) := by
  have e : wrap64 (t - (l.length : Int)) = t - l.length := w64 (by omega) (by omega)
  unfold laws_szEntryS.f lf
  rw [e]
  by_cases h : (l.length : Int) ≤ t
  · rw [if_neg (by omega), if_pos h]
  · rw [if_pos (by omega), if_neg h]
theorem toEntryS_ev (l : List lEntry) (hl : l.length ≤ 1048576) : Ev (fun k => laws_toEntryS.f k l) (l.map cEntry) := by
  have c1 : (0 : Int) ≤ (l.length : Int) := by omega
  simp only [laws_toEntryS.f, c1, if_true, Int.toNat_natCast]
  refine Ev.pos (by omega) ?_
  refine fill_ev l cEntry z165 (g := fun k s i => laws_toEntryS.l0 k l s i) ?_ ?_
  · intro s hs
    refine Ev.shift ?_
    simp only [laws_toEntryS.l0, Int.lt_irrefl, if_false]
    exact Ev.now _
  · intro s i x r hx hs hi h
    have hr : rd_T224 l (i : Int) = x := getD_get hx
    refine Ev.shift ?_
    have d1 : (i : Int) < (l.length : Int) := by omega
    have d2 : (0 : Int) ≤ (i : Int) := by omega
    have d3 : (i : Int) < (s.length : Int) := by omega
    simp only [laws_toEntryS.l0, laws_toEntry.f, Option.bind_some, d1, d2, d3, if_true, hr, Int.toNat_natCast, succ64 hi (by omega)]
    exact h
theorem eqEntryS_ev (l : List iEntry) (hl : l.length ≤ 9223372036854775807) : Ev (fun k => laws_eqEntryS.f k l l) true := by
  simp only [laws_eqEntryS.f, if_true]
  refine look_ev l true (g := fun k i => laws_eqEntryS.l0 k l l i) ?_ ?_
  · refine Ev.shift ?_
    simp only [laws_eqEntryS.l0, Int.lt_irrefl, if_false]
    exact Ev.now _
  · intro i x hx hi h
    refine Ev.shift ?_
    have d1 : (i : Int) < (l.length : Int) := by omega
    have d2 : (0 : Int) ≤ (i : Int) := by omega
    simp only [laws_eqEntryS.l0, laws_eqEntry.f, bne_self_eq_false, Bool.false_eq_true, if_false, Option.bind_some, d1, d2, if_true, succ64 hi hl]
    exact h
end Go.Proofs.YtmljebgideecjaaGreat.P
end
section
set_option linter.unusedSimpArgs false
set_option linter.unusedVariables false
namespace Go.Proofs.YtmljebgideecjaaGreat.P
open Go.RowKit Go.Proofs.YtmljebgideecjaaGreatW.PrintWords Go.Proofs.YtmljebgideecjaaGreatW.PrintLast Go.Proofs.YtmljebgideecjaaGreatZ
theorem toIntS_ev (l : List Int) (hl : l.length ≤ 1048576) : Ev (fun k => laws_toIntS.f k l) l := by
  have c1 : (0 : Int) ≤ (l.length : Int) := by omega
  have c2 : l.length ≤ 35184372088832 := by omega
  simp only [laws_toIntS.f, c1, c2, if_true, Int.toNat_natCast]
  have h := fill_ev l id (0 : Int) (g := fun k s i => laws_toIntS.l0 k l s i) ?_ ?_
  · rw [List.map_id] at h
    exact h
  · intro s hs
    refine Ev.shift ?_
    simp only [laws_toIntS.l0, Int.lt_irrefl, if_false]
    exact Ev.now _
  · intro s i x r hx hs hi h
    refine Ev.shift ?_
    have d1 : (i : Int) < (l.length : Int) := by omega
    have d2 : (0 : Int) ≤ (i : Int) := by omega
    have d3 : (i : Int) < (s.length : Int) := by omega
    simp only [laws_toIntS.l0, d1, d2, d3, if_true, rd_get hx, Int.toNat_natCast, succ64 hi (by omega)]
    exact h
theorem eqIntS_ev (l : List Int) (hl : l.length ≤ 9223372036854775807) : Ev (fun k => laws_eqIntS.f k l l) true := by
  simp only [laws_eqIntS.f, if_true]
  refine look_ev l true (g := fun k i => laws_eqIntS.l0 k l l i) ?_ ?_
  · refine Ev.shift ?_
    simp only [laws_eqIntS.l0, Int.lt_irrefl, if_false]
    exact Ev.now _
  · intro i x hx hi h
    refine Ev.shift ?_
    have d1 : (i : Int) < (l.length : Int) := by omega
    have d2 : (0 : Int) ≤ (i : Int) := by omega
    simp only [laws_eqIntS.l0, d1, d2, if_true, succ64 hi hl]
    exact h
end Go.Proofs.YtmljebgideecjaaGreat.P
end
section
set_option linter.unusedSimpArgs false
set_option linter.unusedVariables false
namespace Go.Proofs.YtmljebgideecjaaGreat.P
open Go.RowKit Go.Proofs.YtmljebgideecjaaGreatW.PrintWords Go.Proofs.YtmljebgideecjaaGreatW.PrintLast Go.Proofs.YtmljebgideecjaaGreatZ
theorem szIntS_eq (l : List Int) (t : Int) (h0 : 0 ≤ t) (h1 : t ≤ 1048576) (hl : l.length ≤ 9223372036854775807) : laws_szIntS.f l t = some (lf (l.length : Int) t) := by
  have e : wrap64 (t - (l.length : Int)) = t - l.length := w64 (by omega) (by omega)
  unfold laws_szIntS.f lf
  rw [e]
  by_cases h : (l.length : Int) ≤ t
  · rw [if_neg (by omega), if_pos h]
  · rw [if_pos (by omega), if_neg h]
end Go.Proofs.YtmljebgideecjaaGreat.P
end
section
set_option linter.unusedSimpArgs false
set_option linter.unusedVariables false
namespace Go.Proofs.YtmljebgideecjaaGreat.P
open Go.RowKit Go.Proofs.YtmljebgideecjaaGreatW.PrintWords Go.Proofs.YtmljebgideecjaaGreatW.PrintLast Go.Proofs.YtmljebgideecjaaGreatZ
theorem lf_then {a b t : Int} {G : Int → Option Int} (ha : 0 ≤ a) (hb : 0 ≤ b) (ht : t ≤ 1048576) (hG : ∀ u, 0 ≤ u → u ≤ 1048576 → G u = some (lf b u)) : (if lf a t < 0 then some (-1) else G (lf a t)) = some (lf (a + b) t) := by
  by_cases h : a ≤ t
  · rw [lf_pos h, if_neg (by omega), hG _ (by omega) (by omega)]
    unfold lf
    by_cases h2 : b ≤ t - a
    · rw [if_pos h2, if_pos (by omega)]; congr 1; omega
    · rw [if_neg h2, if_neg (by omega)]
  · rw [lf_neg h, if_pos (by decide), lf_neg (by omega)]
theorem lf_last {a t : Int} (ha : 0 ≤ a) : (if lf a t < 0 then some (-1) else some (lf a t)) = some (lf a t) := by
  by_cases h : a ≤ t
  · rw [lf_pos h, if_neg (by omega)]
  · rw [lf_neg h, if_pos (by decide)]
theorem szRes_eq (a : Int) (l : List Int) (t : Int) (h0 : 0 ≤ t) (h1 : t ≤ 1048576) (hl : l.length ≤ 9223372036854775807) : laws_szRes.f a l t = some (lf (l.length : Int) t) := by
  simp only [laws_szRes.f]
  rw [szIntS_eq l t h0 h1 hl, Option.bind_some]
  exact lf_last (by omega)
theorem toRes_ev (a : Int) (l : List Int) (hl : l.length ≤ 1048576) : Ev (fun k => laws_toRes.f k a l) (a, l) := by
  simp only [laws_toRes.f]
  exact Ev.bind (toIntS_ev l hl) (Ev.now _)
theorem eqRes_ev (a : Int) (l : List Int) (hl : l.length ≤ 9223372036854775807) : Ev (fun k => laws_eqRes.f k a l a l) true := by
  simp only [laws_eqRes.f, if_true]
  refine Ev.bind (eqIntS_ev l hl) ?_
  simp only [if_true]
  exact Ev.now _
theorem ctl_mem {τ : Type} {ct : τ → Int} (h : ∀ x, 0 ≤ ct x) {x : τ} : ∀ {l : List τ}, x ∈ l → ct x ≤ ctl ct l
  | [], m => by cases m
  | y :: l, m => by
    have h1 := h y
    have h2 := ctl_nonneg h l
    simp only [ctl]
    rcases List.mem_cons.mp m with e | m
    · rw [e]; omega
    · have := ctl_mem h m; omega
end Go.Proofs.YtmljebgideecjaaGreat.P
end
section
set_option linter.unusedSimpArgs false
set_option linter.unusedVariables false
namespace Go.Proofs.YtmljebgideecjaaGreat.P
open Go.RowKit Go.Proofs.YtmljebgideecjaaGreatW.PrintWords Go.Proofs.YtmljebgideecjaaGreatW.PrintLast Go.Proofs.YtmljebgideecjaaGreatZ
abbrev lDesc := S155
abbrev iDesc := S162
def cDesc (x : lDesc) : iDesc := ⟨x.f0, x.f1, x.f2.map cEntry, ⟨x.f3.f0, x.f3.f1⟩⟩
def wtDesc (x : lDesc) : Int := (x.f2.length : Int) + x.f3.f1.length
def smDesc (x : iDesc) : Prop := x.f2.length ≤ 1048576 ∧ x.f3.f1.length ≤ 1048576
theorem wtDesc_nn (x : lDesc) : 0 ≤ wtDesc x := by unfold wtDesc; omega
theorem smDesc_of (x : lDesc) (h : wtDesc x ≤ 1048576) : smDesc (cDesc x) := by
  unfold wtDesc at h
  simp only [smDesc, cDesc, List.length_map]
  omega
theorem szDesc_eq (x : lDesc) (t : Int) (h0 : 0 ≤ t) (h1 : t ≤ 1048576) (hw : x.f2.length ≤ 9223372036854775807 ∧ x.f3.f1.length ≤ 9223372036854775807) : laws_szDesc.f x.f0 x.f1 x.f2 x.f3.f0 x.f3.f1 t = some (lf (wtDesc x) t) := by
  unfold wtDesc
  simp only [laws_szDesc.f]
  rw [szEntryS_eq _ t h0 h1 hw.1, Option.bind_some]
  exact lf_then (a := (x.f2.length : Int)) (b := (x.f3.f1.length : Int)) (G := fun u => (laws_szRes.f x.f3.f0 x.f3.f1 u).bind fun t103 => (if t103 < 0 then some (-1) else some t103)) (by omega) (by omega) h1 (fun u u0 u1 => by show (laws_szRes.f x.f3.f0 x.f3.f1 u).bind _ = _; rw [szRes_eq _ _ u u0 u1 hw.2, Option.bind_some]; exact lf_last (by omega))
theorem toDesc_ev (x : lDesc) (h : wtDesc x ≤ 1048576) : Ev (fun k => laws_toDesc.f k x.f0 x.f1 x.f2 x.f3.f0 x.f3.f1) (x.f0, x.f1, x.f2.map cEntry, x.f3.f0, x.f3.f1) := by
  unfold wtDesc at h
  simp only [laws_toDesc.f]
  refine Ev.bind (toEntryS_ev _ (by omega)) (Ev.bind (toRes_ev _ _ (by omega)) (Ev.now _))
theorem eqDesc_ev (x : iDesc) (h : smDesc x) : Ev (fun k => laws_eqDesc.f k x.f0 x.f1 x.f2 x.f3.f0 x.f3.f1 x.f0 x.f1 x.f2 x.f3.f0 x.f3.f1) true := by
  unfold smDesc at h
  simp only [laws_eqDesc.f, if_true]
  refine Ev.bind (eqEntryS_ev _ (by omega)) ?_
  simp only [if_true]
  refine Ev.bind (eqRes_ev _ _ (by omega)) ?_
  simp only [if_true]
  exact Ev.now _
theorem szDescS_ev (l : List lDesc) (hl : l.length ≤ 9223372036854775807) (hw : ∀ x ∈ l, x.f2.length ≤ 9223372036854775807 ∧ x.f3.f1.length ≤ 9223372036854775807) (t : Int) (h0 : 0 ≤ t) (h1 : t ≤ 1048576) : Ev (fun k => laws_szDescS.f k l t) (lf (l.length + ctl wtDesc l) t) := by
  have hc := ctl_nonneg wtDesc_nn l
  have e : wrap64 (t - (l.length : Int)) = t - l.length := w64 (by omega) (by omega)
  simp only [laws_szDescS.f, e]
  by_cases h : (l.length : Int) ≤ t
  · have c : ¬ (t - (l.length : Int) < 0) := by omega
    simp only [c, if_false]
    have h := size_ev l wtDesc wtDesc_nn 1048576 (g := fun k t i => laws_szDescS.l0 k l t i) ?_ ?_ ?_ (t - l.length) (by omega) (by omega)
    · refine h.to ?_
      unfold lf
      by_cases h2 : ctl wtDesc l ≤ t - l.length
      · rw [if_pos h2, if_pos (by omega)]; omega
      · rw [if_neg h2, if_neg (by omega)]
    · intro t
      refine Ev.shift ?_
      simp only [laws_szDescS.l0, Int.lt_irrefl, if_false]
      exact Ev.now _
    · intro t i x hx hi h0 h1 hlt
      have hr : rd_T155 l (i : Int) = x := getD_get hx
      have d1 : (i : Int) < (l.length : Int) := by omega
      have d2 : (0 : Int) ≤ (i : Int) := by omega
      refine Ev.shift ?_
      simp only [laws_szDescS.l0, d1, d2, if_true, hr, szDesc_eq x t h0 h1 (hw x (List.mem_of_getElem? hx)), lf_neg (show ¬ wtDesc x ≤ t by omega), Option.bind_some, show (-1 : Int) < 0 by decide]
      exact Ev.now _
    · intro t i x r hx hi h0 h1 hle h
      have hr : rd_T155 l (i : Int) = x := getD_get hx
      have d1 : (i : Int) < (l.length : Int) := by omega
      have d2 : (0 : Int) ≤ (i : Int) := by omega
      have d3 : ¬ (t - wtDesc x < 0) := by omega
      refine Ev.shift ?_
      simp only [laws_szDescS.l0, d1, d2, if_true, hr, szDesc_eq x t h0 h1 (hw x (List.mem_of_getElem? hx)), lf_pos hle, Option.bind_some, d3, if_false, succ64 hi hl]
      exact h
  · have c : t - (l.length : Int) < 0 := by omega
    simp only [c, if_true]
    exact Ev.val (lf_neg (by omega)).symm
theorem toDescS_ev (l : List lDesc) (hl : l.length ≤ 1048576) (hw : ctl wtDesc l ≤ 1048576) : Ev (fun k => laws_toDescS.f k l) (l.map cDesc) := by
  have c1 : (0 : Int) ≤ (l.length : Int) := by omega
  simp only [laws_toDescS.f, c1, if_true, Int.toNat_natCast]
  refine Ev.pos (by omega) ?_
  refine fill_ev l cDesc z162 (g := fun k s i => laws_toDescS.l0 k l s i) ?_ ?_
  · intro s hs
    refine Ev.shift ?_
    simp only [laws_toDescS.l0, Int.lt_irrefl, if_false]
    exact Ev.now _
  · intro s i x r hx hs hi h
    have hr : rd_T155 l (i : Int) = x := getD_get hx
    have hm := ctl_mem wtDesc_nn (List.mem_of_getElem? hx)
    refine Ev.shift ?_
    have d1 : (i : Int) < (l.length : Int) := by omega
    have d2 : (0 : Int) ≤ (i : Int) := by omega
    have d3 : (i : Int) < (s.length : Int) := by omega
    simp only [laws_toDescS.l0, d1, d2, if_true, hr]
    refine Ev.bind (toDesc_ev x (by omega)) ?_
    simp only [d3, if_true, Int.toNat_natCast, succ64 hi (by omega)]
    exact h
theorem eqDescS_ev (l : List iDesc) (hl : l.length ≤ 9223372036854775807) (hs : ∀ x ∈ l, smDesc x) : Ev (fun k => laws_eqDescS.f k l l) true := by
  simp only [laws_eqDescS.f, if_true]
  refine look_ev l true (g := fun k i => laws_eqDescS.l0 k l l i) ?_ ?_
  · refine Ev.shift ?_
    simp only [laws_eqDescS.l0, Int.lt_irrefl, if_false]
    exact Ev.now _
  · intro i x hx hi h
    have hr : rd_T162 l (i : Int) = x := getD_get hx
    refine Ev.shift ?_
    have d1 : (i : Int) < (l.length : Int) := by omega
    have d2 : (0 : Int) ≤ (i : Int) := by omega
    simp only [laws_eqDescS.l0, d1, d2, if_true, hr, succ64 hi hl]
    refine Ev.bind (eqDesc_ev x (hs x (List.mem_of_getElem? hx))) ?_
    simp only [if_true]
    exact h
end Go.Proofs.YtmljebgideecjaaGreat.P
end
section
set_option linter.unusedSimpArgs false
set_option linter.unusedVariables false
namespace Go.Proofs.YtmljebgideecjaaGreat.P
open Go.RowKit Go.Proofs.YtmljebgideecjaaGreatW.PrintWords Go.Proofs.YtmljebgideecjaaGreatW.PrintLast Go.Proofs.YtmljebgideecjaaGreatZ
abbrev lOp := S116
abbrev iOp := S69
def cOp (x : lOp) : iOp := ⟨x.f0, x.f1, x.f2⟩
theorem szOpS_eq (l : List lOp) (t : Int) (h0 : 0 ≤ t) (h1 : t ≤ 1048576) (hl : l.length ≤ 9223372036854775807) : laws_szOpS.f l t = some (lf (l.length : Int) t) := by
  have e : wrap64 (t - (l.length : Int)) = t - l.length := w64 (by omega) (by omega)
  unfold laws_szOpS.f lf
  rw [e]
  by_cases h : (l.length : Int) ≤ t
  · rw [if_neg (by omega), if_pos h]
  · rw [if_pos (by omega), if_neg h]
theorem toOpS_ev (l : List lOp) (hl : l.length ≤ 1048576) : Ev (fun k => laws_toOpS.f k l) (l.map cOp) := by
  have c1 : (0 : Int) ≤ (l.length : Int) := by omega
  simp only [laws_toOpS.f, c1, if_true, Int.toNat_natCast]
  refine Ev.pos (by omega) ?_
  refine fill_ev l cOp z69 (g := fun k s i => laws_toOpS.l0 k l s i) ?_ ?_
  · intro s hs
    refine Ev.shift ?_
    simp only [laws_toOpS.l0, Int.lt_irrefl, if_false]
    exact Ev.now _
  · intro s i x r hx hs hi h
    have hr : rd_T116 l (i : Int) = x := getD_get hx
    refine Ev.shift ?_
    have d1 : (i : Int) < (l.length : Int) := by omega
    have d2 : (0 : Int) ≤ (i : Int) := by omega
    have d3 : (i : Int) < (s.length : Int) := by omega
    simp only [laws_toOpS.l0, laws_toOp.f, Option.bind_some, d1, d2, d3, if_true, hr, Int.toNat_natCast, succ64 hi (by omega)]
    exact h
theorem eqOpS_ev (l : List iOp) (hl : l.length ≤ 9223372036854775807) : Ev (fun k => laws_eqOpS.f k l l) true := by
  simp only [laws_eqOpS.f, if_true]
  refine look_ev l true (g := fun k i => laws_eqOpS.l0 k l l i) ?_ ?_
  · refine Ev.shift ?_
    simp only [laws_eqOpS.l0, Int.lt_irrefl, if_false]
    exact Ev.now _
  · intro i x hx hi h
    refine Ev.shift ?_
    have d1 : (i : Int) < (l.length : Int) := by omega
    have d2 : (0 : Int) ≤ (i : Int) := by omega
    simp only [laws_eqOpS.l0, laws_eqOp.f, bne_self_eq_false, Bool.false_eq_true, if_false, Option.bind_some, d1, d2, if_true, succ64 hi hl]
    exact h
end Go.Proofs.YtmljebgideecjaaGreat.P
end
section
set_option linter.unusedSimpArgs false
set_option linter.unusedVariables false
namespace Go.Proofs.YtmljebgideecjaaGreat.P
open Go.RowKit Go.Proofs.YtmljebgideecjaaGreatW.PrintWords Go.Proofs.YtmljebgideecjaaGreatW.PrintLast Go.Proofs.YtmljebgideecjaaGreatZ
abbrev lPair := S204
abbrev iPair := S172
def cPair (x : lPair) : iPair := ⟨x.f0, x.f1⟩
theorem szPairS_eq (l : List lPair) (t : Int) (h0 : 0 ≤ t) (h1 : t ≤ 1048576) (hl : l.length ≤ 9223372036854775807) : laws_szPairS.f l t = some (lf (l.length : Int) t) := by
  have e : wrap64 (t - (l.length : Int)) = t - l.length := w64 (by omega) (by omega)
  unfold laws_szPairS.f lf
  rw [e]
  by_cases h : (l.length : Int) ≤ t
  · rw [if_neg (by omega), if_pos h]
  · rw [if_pos (by omega), if_neg h]
theorem toPairS_ev (l : List lPair) (hl : l.length ≤ 1048576) : Ev (fun k => laws_toPairS.f k l) (l.map cPair) := by
  have c1 : (0 : Int) ≤ (l.length : Int) := by omega
  simp only [laws_toPairS.f, c1, if_true, Int.toNat_natCast]
  refine Ev.pos (by omega) ?_
  refine fill_ev l cPair z172 (g := fun k s i => laws_toPairS.l0 k l s i) ?_ ?_
  · intro s hs
    refine Ev.shift ?_
    simp only [laws_toPairS.l0, Int.lt_irrefl, if_false]
    exact Ev.now _
  · intro s i x r hx hs hi h
    have hr : rd_T204 l (i : Int) = x := getD_get hx
    refine Ev.shift ?_
    have d1 : (i : Int) < (l.length : Int) := by omega
    have d2 : (0 : Int) ≤ (i : Int) := by omega
    have d3 : (i : Int) < (s.length : Int) := by omega
    simp only [laws_toPairS.l0, laws_toPair.f, Option.bind_some, d1, d2, d3, if_true, hr, Int.toNat_natCast, succ64 hi (by omega)]
    exact h
theorem eqPairS_ev (l : List iPair) (hl : l.length ≤ 9223372036854775807) : Ev (fun k => laws_eqPairS.f k l l) true := by
  simp only [laws_eqPairS.f, if_true]
  refine look_ev l true (g := fun k i => laws_eqPairS.l0 k l l i) ?_ ?_
  · refine Ev.shift ?_
    simp only [laws_eqPairS.l0, Int.lt_irrefl, if_false]
    exact Ev.now _
  · intro i x hx hi h
    refine Ev.shift ?_
    have d1 : (i : Int) < (l.length : Int) := by omega
    have d2 : (0 : Int) ≤ (i : Int) := by omega
    simp only [laws_eqPairS.l0, laws_eqPair.f, bne_self_eq_false, Bool.false_eq_true, if_false, Option.bind_some, d1, d2, if_true, succ64 hi hl]
    exact h
end Go.Proofs.YtmljebgideecjaaGreat.P
end
section
set_option linter.unusedSimpArgs false
set_option linter.unusedVariables false
namespace Go.Proofs.YtmljebgideecjaaGreat.P
open Go.RowKit Go.Proofs.YtmljebgideecjaaGreatW.PrintWords Go.Proofs.YtmljebgideecjaaGreatW.PrintLast Go.Proofs.YtmljebgideecjaaGreatZ
abbrev lHelp := S206
abbrev iHelp := S174
def cHelp (x : lHelp) : iHelp := ⟨x.f0, x.f1, x.f2, x.f3⟩
theorem szHelpS_eq (l : List lHelp) (t : Int) (h0 : 0 ≤ t) (h1 : t ≤ 1048576) (hl : l.length ≤ 9223372036854775807) : laws_szHelpS.f l t = some (lf (l.length : Int) t) := by
  have e : wrap64 (t - (l.length : Int)) = t - l.length := w64 (by omega) (by omega)
  unfold laws_szHelpS.f lf
  rw [e]
  by_cases h : (l.length : Int) ≤ t
  · rw [if_neg (by omega), if_pos h]
  · rw [if_pos (by omega), if_neg h]
theorem toHelpS_ev (l : List lHelp) (hl : l.length ≤ 1048576) : Ev (fun k => laws_toHelpS.f k l) (l.map cHelp) := by
  have c1 : (0 : Int) ≤ (l.length : Int) := by omega
  simp only [laws_toHelpS.f, c1, if_true, Int.toNat_natCast]
  refine Ev.pos (by omega) ?_
  refine fill_ev l cHelp z174 (g := fun k s i => laws_toHelpS.l0 k l s i) ?_ ?_
  · intro s hs
    refine Ev.shift ?_
    simp only [laws_toHelpS.l0, Int.lt_irrefl, if_false]
    exact Ev.now _
  · intro s i x r hx hs hi h
    have hr : rd_T206 l (i : Int) = x := getD_get hx
    refine Ev.shift ?_
    have d1 : (i : Int) < (l.length : Int) := by omega
    have d2 : (0 : Int) ≤ (i : Int) := by omega
    have d3 : (i : Int) < (s.length : Int) := by omega
    simp only [laws_toHelpS.l0, laws_toHelp.f, Option.bind_some, d1, d2, d3, if_true, hr, Int.toNat_natCast, succ64 hi (by omega)]
    exact h
theorem eqHelpS_ev (l : List iHelp) (hl : l.length ≤ 9223372036854775807) : Ev (fun k => laws_eqHelpS.f k l l) true := by
  simp only [laws_eqHelpS.f, if_true]
  refine look_ev l true (g := fun k i => laws_eqHelpS.l0 k l l i) ?_ ?_
  · refine Ev.shift ?_
    simp only [laws_eqHelpS.l0, Int.lt_irrefl, if_false]
    exact Ev.now _
  · intro i x hx hi h
    refine Ev.shift ?_
    have d1 : (i : Int) < (l.length : Int) := by omega
    have d2 : (0 : Int) ≤ (i : Int) := by omega
    simp only [laws_eqHelpS.l0, laws_eqHelp.f, bne_self_eq_false, Bool.false_eq_true, if_false, Option.bind_some, d1, d2, if_true, succ64 hi hl]
    exact h
end Go.Proofs.YtmljebgideecjaaGreat.P
end
section
set_option linter.unusedSimpArgs false
set_option linter.unusedVariables false
namespace Go.Proofs.YtmljebgideecjaaGreat.P
open Go.RowKit Go.Proofs.YtmljebgideecjaaGreatW.PrintWords Go.Proofs.YtmljebgideecjaaGreatW.PrintLast Go.Proofs.YtmljebgideecjaaGreatZ
abbrev lThread := S114
abbrev iThread := S97
def cThread (x : lThread) : iThread := ⟨x.f0.map cOp, x.f1, x.f2, x.f3.map cPair, x.f4.map cHelp⟩
def wtThread (x : lThread) : Int := (x.f0.length : Int) + (x.f3.length + x.f4.length)
def smThread (x : iThread) : Prop := x.f0.length ≤ 1048576 ∧ x.f3.length ≤ 1048576 ∧ x.f4.length ≤ 1048576
theorem wtThread_nn (x : lThread) : 0 ≤ wtThread x := by unfold wtThread; omega
theorem smThread_of (x : lThread) (h : wtThread x ≤ 1048576) : smThread (cThread x) := by
  unfold wtThread at h
  simp only [smThread, cThread, List.length_map]
  omega
theorem szThread_eq (x : lThread) (t : Int) (h0 : 0 ≤ t) (h1 : t ≤ 1048576) (hw : x.f0.length ≤ 9223372036854775807 ∧ x.f3.length ≤ 9223372036854775807 ∧ x.f4.length ≤ 9223372036854775807) : laws_szThread.f x.f0 x.f1 x.f2 x.f3 x.f4 t = some (lf (wtThread x) t) := by
  unfold wtThread
  simp only [laws_szThread.f]
  rw [szOpS_eq _ t h0 h1 hw.1, Option.bind_some]
  refine lf_then (a := (x.f0.length : Int)) (b := (x.f3.length : Int) + x.f4.length) (G := fun u => (laws_szPairS.f x.f3 u).bind fun t103 => (if t103 < 0 then some (-1) else (laws_szHelpS.f x.f4 t103).bind fun t104 => (if t104 < 0 then some (-1) else some t104))) (by omega) (by omega) h1 (fun u u0 u1 => ?_)
  show (laws_szPairS.f x.f3 u).bind _ = _
  rw [szPairS_eq _ u u0 u1 hw.2.1, Option.bind_some]
  exact lf_then (a := (x.f3.length : Int)) (b := (x.f4.length : Int)) (G := fun v => (laws_szHelpS.f x.f4 v).bind fun t104 => (if t104 < 0 then some (-1) else some t104)) (by omega) (by omega) u1 (fun v v0 v1 => by show (laws_szHelpS.f x.f4 v).bind _ = _; rw [szHelpS_eq _ v v0 v1 hw.2.2, Option.bind_some]; exact lf_last (by omega))
theorem toThread_ev (x : lThread) (h : wtThread x ≤ 1048576) : Ev (fun k => laws_toThread.f k x.f0 x.f1 x.f2 x.f3 x.f4) (x.f0.map cOp, x.f1, x.f2, x.f3.map cPair, x.f4.map cHelp) := by
  unfold wtThread at h
  simp only [laws_toThread.f]
  refine Ev.bind (toOpS_ev _ (by omega)) (Ev.bind (toPairS_ev _ (by omega)) (Ev.bind (toHelpS_ev _ (by omega)) (Ev.now _)))
theorem eqThread_ev (x : iThread) (h : smThread x) : Ev (fun k => laws_eqThread.f k x.f0 x.f1 x.f2 x.f3 x.f4 x.f0 x.f1 x.f2 x.f3 x.f4) true := by
  unfold smThread at h
  simp only [laws_eqThread.f]
  refine Ev.bind (eqOpS_ev _ (by omega)) ?_
  simp only [if_true, bne_self_eq_false, Bool.false_eq_true, if_false]
  refine Ev.bind (eqPairS_ev _ (by omega)) ?_
  simp only [if_true]
  refine Ev.bind (eqHelpS_ev _ (by omega)) ?_
  simp only [if_true]
  exact Ev.now _
theorem szThreadS_ev (l : List lThread) (hl : l.length ≤ 9223372036854775807) (hw : ∀ x ∈ l, x.f0.length ≤ 9223372036854775807 ∧ x.f3.length ≤ 9223372036854775807 ∧ x.f4.length ≤ 9223372036854775807) (t : Int) (h0 : 0 ≤ t) (h1 : t ≤ 1048576) : Ev (fun k => laws_szThreadS.f k l t) (lf (l.length + ctl wtThread l) t) := by
  have hc := ctl_nonneg wtThread_nn l
  have e : wrap64 (t - (l.length : Int)) = t - l.length := w64 (by omega) (by omega)
  simp only [laws_szThreadS.f, e]
  by_cases h : (l.length : Int) ≤ t
  · have c : ¬ (t - (l.length : Int) < 0) := by omega
    simp only [c, if_false]
    have h := size_ev l wtThread wtThread_nn 1048576 (g := fun k t i => laws_szThreadS.l0 k l t i) ?_ ?_ ?_ (t - l.length) (by omega) (by omega)
    · refine h.to ?_
      unfold lf
      by_cases h2 : ctl wtThread l ≤ t - l.length
      · rw [if_pos h2, if_pos (by omega)]; omega
      · rw [if_neg h2, if_neg (by omega)]
    · intro t
      refine Ev.shift ?_
      simp only [laws_szThreadS.l0, Int.lt_irrefl, if_false]
      exact Ev.now _
    · intro t i x hx hi h0 h1 hlt
      have hr : rd_T114 l (i : Int) = x := getD_get hx
      have d1 : (i : Int) < (l.length : Int) := by omega
      have d2 : (0 : Int) ≤ (i : Int) := by omega
      refine Ev.shift ?_
      simp only [laws_szThreadS.l0, d1, d2, if_true, hr, szThread_eq x t h0 h1 (hw x (List.mem_of_getElem? hx)), lf_neg (show ¬ wtThread x ≤ t by omega), Option.bind_some, show (-1 : Int) < 0 by decide]
      exact Ev.now _
    · intro t i x r hx hi h0 h1 hle h
      have hr : rd_T114 l (i : Int) = x := getD_get hx
      have d1 : (i : Int) < (l.length : Int) := by omega
      have d2 : (0 : Int) ≤ (i : Int) := by omega
      have d3 : ¬ (t - wtThread x < 0) := by omega
      refine Ev.shift ?_
      simp only [laws_szThreadS.l0, d1, d2, if_true, hr, szThread_eq x t h0 h1 (hw x (List.mem_of_getElem? hx)), lf_pos hle, Option.bind_some, d3, if_false, succ64 hi hl]
      exact h
  · have c : t - (l.length : Int) < 0 := by omega
    simp only [c, if_true]
    exact Ev.val (lf_neg (by omega)).symm
theorem toThreadS_ev (l : List lThread) (hl : l.length ≤ 1048576) (hw : ctl wtThread l ≤ 1048576) : Ev (fun k => laws_toThreadS.f k l) (l.map cThread) := by
  have c1 : (0 : Int) ≤ (l.length : Int) := by omega
  simp only [laws_toThreadS.f, c1, if_true, Int.toNat_natCast]
  refine Ev.pos (by omega) ?_
  refine fill_ev l cThread z97 (g := fun k s i => laws_toThreadS.l0 k l s i) ?_ ?_
  · intro s hs
    refine Ev.shift ?_
    simp only [laws_toThreadS.l0, Int.lt_irrefl, if_false]
    exact Ev.now _
  · intro s i x r hx hs hi h
    have hr : rd_T114 l (i : Int) = x := getD_get hx
    have hm := ctl_mem wtThread_nn (List.mem_of_getElem? hx)
    refine Ev.shift ?_
    have d1 : (i : Int) < (l.length : Int) := by omega
    have d2 : (0 : Int) ≤ (i : Int) := by omega
    have d3 : (i : Int) < (s.length : Int) := by omega
    simp only [laws_toThreadS.l0, d1, d2, if_true, hr]
    refine Ev.bind (toThread_ev x (by omega)) ?_
    simp only [d3, if_true, Int.toNat_natCast, succ64 hi (by omega)]
    exact h
theorem eqThreadS_ev (l : List iThread) (hl : l.length ≤ 9223372036854775807) (hs : ∀ x ∈ l, smThread x) : Ev (fun k => laws_eqThreadS.f k l l) true := by
  simp only [laws_eqThreadS.f, if_true]
  refine look_ev l true (g := fun k i => laws_eqThreadS.l0 k l l i) ?_ ?_
  · refine Ev.shift ?_
    simp only [laws_eqThreadS.l0, Int.lt_irrefl, if_false]
    exact Ev.now _
  · intro i x hx hi h
    have hr : rd_T97 l (i : Int) = x := getD_get hx
    refine Ev.shift ?_
    have d1 : (i : Int) < (l.length : Int) := by omega
    have d2 : (0 : Int) ≤ (i : Int) := by omega
    simp only [laws_eqThreadS.l0, d1, d2, if_true, hr, succ64 hi hl]
    refine Ev.bind (eqThread_ev x (hs x (List.mem_of_getElem? hx))) ?_
    simp only [if_true]
    exact h
end Go.Proofs.YtmljebgideecjaaGreat.P
end
section
set_option linter.unusedSimpArgs false
set_option linter.unusedVariables false
namespace Go.Proofs.YtmljebgideecjaaGreat.P
open Go.RowKit Go.Proofs.YtmljebgideecjaaGreatW.PrintWords Go.Proofs.YtmljebgideecjaaGreatW.PrintLast Go.Proofs.YtmljebgideecjaaGreatZ
abbrev lCall := S119
abbrev iCall := S73
def cCall (x : lCall) : iCall := ⟨x.f0, ⟨x.f1.f0, x.f1.f1, x.f1.f2⟩, x.f2, x.f3, x.f4, ⟨x.f5.f0, x.f5.f1⟩⟩
def wtCall (x : lCall) : Int := (x.f5.f1.length : Int)
def smCall (x : iCall) : Prop := x.f5.f1.length ≤ 1048576
theorem wtCall_nn (x : lCall) : 0 ≤ wtCall x := by unfold wtCall; omega
theorem smCall_of (x : lCall) (h : wtCall x ≤ 1048576) : smCall (cCall x) := by
  unfold wtCall at h
  simp only [smCall, cCall, List.length_map]
  omega
theorem szCall_eq (x : lCall) (t : Int) (h0 : 0 ≤ t) (h1 : t ≤ 1048576) (hw : x.f5.f1.length ≤ 9223372036854775807) : laws_szCall.f x.f0 x.f1.f0 x.f1.f1 x.f1.f2 x.f2 x.f3 x.f4 x.f5.f0 x.f5.f1 t = some (lf (wtCall x) t) := by
  unfold wtCall
  simp only [laws_szCall.f]
  rw [szRes_eq _ _ t h0 h1 hw, Option.bind_some]
  exact lf_last (by omega)
theorem toCall_ev (x : lCall) (h : wtCall x ≤ 1048576) : Ev (fun k => laws_toCall.f k x.f0 x.f1.f0 x.f1.f1 x.f1.f2 x.f2 x.f3 x.f4 x.f5.f0 x.f5.f1) (x.f0, x.f1.f0, x.f1.f1, x.f1.f2, x.f2, x.f3, x.f4, x.f5.f0, x.f5.f1) := by
  unfold wtCall at h
  simp only [laws_toCall.f, laws_toOp.f, Option.bind_some]
  exact Ev.bind (toRes_ev _ _ (by omega)) (Ev.now _)
theorem eqCall_ev (x : iCall) (h : smCall x) : Ev (fun k => laws_eqCall.f k x.f0 x.f1.f0 x.f1.f1 x.f1.f2 x.f2 x.f3 x.f4 x.f5.f0 x.f5.f1 x.f0 x.f1.f0 x.f1.f1 x.f1.f2 x.f2 x.f3 x.f4 x.f5.f0 x.f5.f1) true := by
  unfold smCall at h
  simp only [laws_eqCall.f, laws_eqOp.f, if_true, Option.bind_some]
  refine Ev.bind (eqRes_ev _ _ (by omega)) ?_
  simp only [if_true]
  exact Ev.now _
theorem szCallS_ev (l : List lCall) (hl : l.length ≤ 9223372036854775807) (hw : ∀ x ∈ l, x.f5.f1.length ≤ 9223372036854775807) (t : Int) (h0 : 0 ≤ t) (h1 : t ≤ 1048576) : Ev (fun k => laws_szCallS.f k l t) (lf (l.length + ctl wtCall l) t) := by
  have hc := ctl_nonneg wtCall_nn l
  have e : wrap64 (t - (l.length : Int)) = t - l.length := w64 (by omega) (by omega)
  simp only [laws_szCallS.f, e]
  by_cases h : (l.length : Int) ≤ t
  · have c : ¬ (t - (l.length : Int) < 0) := by omega
    simp only [c, if_false]
    have h := size_ev l wtCall wtCall_nn 1048576 (g := fun k t i => laws_szCallS.l0 k l t i) ?_ ?_ ?_ (t - l.length) (by omega) (by omega)
    · refine h.to ?_
      unfold lf
      by_cases h2 : ctl wtCall l ≤ t - l.length
      · rw [if_pos h2, if_pos (by omega)]; omega
      · rw [if_neg h2, if_neg (by omega)]
    · intro t
      refine Ev.shift ?_
      simp only [laws_szCallS.l0, Int.lt_irrefl, if_false]
      exact Ev.now _
    · intro t i x hx hi h0 h1 hlt
      have hr : rd_T119 l (i : Int) = x := getD_get hx
      have d1 : (i : Int) < (l.length : Int) := by omega
      have d2 : (0 : Int) ≤ (i : Int) := by omega
      refine Ev.shift ?_
      simp only [laws_szCallS.l0, d1, d2, if_true, hr, szCall_eq x t h0 h1 (hw x (List.mem_of_getElem? hx)), lf_neg (show ¬ wtCall x ≤ t by omega), Option.bind_some, show (-1 : Int) < 0 by decide]
      exact Ev.now _
    · intro t i x r hx hi h0 h1 hle h
      have hr : rd_T119 l (i : Int) = x := getD_get hx
      have d1 : (i : Int) < (l.length : Int) := by omega
      have d2 : (0 : Int) ≤ (i : Int) := by omega
      have d3 : ¬ (t - wtCall x < 0) := by omega
      refine Ev.shift ?_
      simp only [laws_szCallS.l0, d1, d2, if_true, hr, szCall_eq x t h0 h1 (hw x (List.mem_of_getElem? hx)), lf_pos hle, Option.bind_some, d3, if_false, succ64 hi hl]
      exact h
  · have c : t - (l.length : Int) < 0 := by omega
    simp only [c, if_true]
    exact Ev.val (lf_neg (by omega)).symm
theorem toCallS_ev (l : List lCall) (hl : l.length ≤ 1048576) (hw : ctl wtCall l ≤ 1048576) : Ev (fun k => laws_toCallS.f k l) (l.map cCall) := by
  have c1 : (0 : Int) ≤ (l.length : Int) := by omega
  simp only [laws_toCallS.f, c1, if_true, Int.toNat_natCast]
  refine Ev.pos (by omega) ?_
  refine fill_ev l cCall z73 (g := fun k s i => laws_toCallS.l0 k l s i) ?_ ?_
  · intro s hs
    refine Ev.shift ?_
    simp only [laws_toCallS.l0, Int.lt_irrefl, if_false]
    exact Ev.now _
  · intro s i x r hx hs hi h
    have hr : rd_T119 l (i : Int) = x := getD_get hx
    have hm := ctl_mem wtCall_nn (List.mem_of_getElem? hx)
    refine Ev.shift ?_
    have d1 : (i : Int) < (l.length : Int) := by omega
    have d2 : (0 : Int) ≤ (i : Int) := by omega
    have d3 : (i : Int) < (s.length : Int) := by omega
    simp only [laws_toCallS.l0, d1, d2, if_true, hr]
    refine Ev.bind (toCall_ev x (by omega)) ?_
    simp only [d3, if_true, Int.toNat_natCast, succ64 hi (by omega)]
    exact h
theorem eqCallS_ev (l : List iCall) (hl : l.length ≤ 9223372036854775807) (hs : ∀ x ∈ l, smCall x) : Ev (fun k => laws_eqCallS.f k l l) true := by
  simp only [laws_eqCallS.f, if_true]
  refine look_ev l true (g := fun k i => laws_eqCallS.l0 k l l i) ?_ ?_
  · refine Ev.shift ?_
    simp only [laws_eqCallS.l0, Int.lt_irrefl, if_false]
    exact Ev.now _
  · intro i x hx hi h
    have hr : rd_T73 l (i : Int) = x := getD_get hx
    refine Ev.shift ?_
    have d1 : (i : Int) < (l.length : Int) := by omega
    have d2 : (0 : Int) ≤ (i : Int) := by omega
    simp only [laws_eqCallS.l0, d1, d2, if_true, hr, succ64 hi hl]
    refine Ev.bind (eqCall_ev x (hs x (List.mem_of_getElem? hx))) ?_
    simp only [if_true]
    exact h
end Go.Proofs.YtmljebgideecjaaGreat.P
end
section
set_option linter.unusedSimpArgs false
set_option linter.unusedVariables false
namespace Go.Proofs.YtmljebgideecjaaGreat.P
open Go.RowKit Go.Proofs.YtmljebgideecjaaGreatW.PrintWords Go.Proofs.YtmljebgideecjaaGreatW.PrintLast Go.Proofs.YtmljebgideecjaaGreatZ
theorem lf_thenE {a b t : Int} {g : Nat → Option Int} {G : Int → Nat → Option Int} (ha : 0 ≤ a) (hb : 0 ≤ b) (ht : t ≤ 1048576) (hg : Ev g (lf a t)) (hG : ∀ u, 0 ≤ u → u ≤ 1048576 → Ev (G u) (lf b u)) : Ev (fun k => (g k).bind fun u => if u < 0 then some (-1) else G u k) (lf (a + b) t) := by
  refine Ev.bind hg ?_
  by_cases h : a ≤ t
  · rw [lf_pos h]
    refine Ev.neg (by omega) ((hG _ (by omega) (by omega)).to ?_)
    unfold lf
    by_cases h2 : b ≤ t - a
    · rw [if_pos h2, if_pos (by omega)]; omega
    · rw [if_neg h2, if_neg (by omega)]
  · rw [lf_neg h]
    refine Ev.pos (by decide) (Ev.val (lf_neg (by omega)).symm)
theorem lf_lastE {a t : Int} {g : Nat → Option Int} (ha : 0 ≤ a) (hg : Ev g (lf a t)) : Ev (fun k => (g k).bind fun u => if u < 0 then some (-1) else some u) (lf a t) := by
  refine Ev.bind hg ?_
  by_cases h : a ≤ t
  · rw [lf_pos h]; exact Ev.neg (by omega) (Ev.now _)
  · rw [lf_neg h]; exact Ev.pos (by decide) (Ev.now _)
def wfDs (d : List lDesc) : Prop := d.length ≤ 9223372036854775807 ∧ ∀ x ∈ d, x.f2.length ≤ 9223372036854775807 ∧ x.f3.f1.length ≤ 9223372036854775807
def wfTs (d : List lThread) : Prop := d.length ≤ 9223372036854775807 ∧ ∀ x ∈ d, x.f0.length ≤ 9223372036854775807 ∧ x.f3.length ≤ 9223372036854775807 ∧ x.f4.length ≤ 9223372036854775807
def wfCs (d : List lCall) : Prop := d.length ≤ 9223372036854775807 ∧ ∀ x ∈ d, x.f5.f1.length ≤ 9223372036854775807
def wtMem (w : List lWord) (d : List lDesc) : Int := (w.length : Int) + (d.length + ctl wtDesc d)
def wtTail (t : List lThread) (c : List lCall) (p q : List Int) : Int := ((t.length : Int) + ctl wtThread t) + (((c.length : Int) + ctl wtCall c) + ((p.length : Int) + q.length))
theorem szMem_ev (w : List lWord) (d : List lDesc) (t : Int) (h0 : 0 ≤ t) (h1 : t ≤ 1048576) (hw : w.length ≤ 9223372036854775807) (hd : wfDs d) : Ev (fun k => laws_szMem.f k w d t) (lf (wtMem w d) t) := by
  have c1 := ctl_nonneg wtDesc_nn d
  simp only [laws_szMem.f]
  exact lf_thenE (G := fun u k => (laws_szDescS.f k d u).bind fun v => if v < 0 then some (-1) else some v) (by omega) (by omega) h1 (Ev.of_eq (szWordS_eq w t h0 h1 hw)) (fun u u0 u1 => lf_lastE (by omega) (szDescS_ev d hd.1 hd.2 u u0 u1))
theorem szMachine_ev (w : List lWord) (d : List lDesc) (t : List lThread) (n : Int) (c : List lCall) (p q : List Int) (s m : Int) (h0 : 0 ≤ m) (h1 : m ≤ 1048576) (hw : w.length ≤ 9223372036854775807) (hd : wfDs d) (ht : wfTs t) (hc : wfCs c) (hp : p.length ≤ 9223372036854775807) (hq : q.length ≤ 9223372036854775807) :
    Ev (fun k => laws_szMachine.f k w d t n c p q s m) (lf (wtMem w d + wtTail t c p q) m) := by
  have c1 := ctl_nonneg wtDesc_nn d
  have c2 := ctl_nonneg wtThread_nn t
  have c3 := ctl_nonneg wtCall_nn c
  simp only [laws_szMachine.f]
  unfold wtTail
  refine lf_thenE (G := fun u k => (laws_szThreadS.f k t u).bind fun v => if v < 0 then some (-1) else (laws_szCallS.f k c v).bind fun x => if x < 0 then some (-1) else (laws_szIntS.f p x).bind fun y => if y < 0 then some (-1) else (laws_szRows.f q s y).bind fun z => if z < 0 then some (-1) else some z) (by unfold wtMem; omega) (by omega) h1 (szMem_ev w d m h0 h1 hw hd) (fun u u0 u1 => ?_)
  refine lf_thenE (G := fun v k => (laws_szCallS.f k c v).bind fun x => if x < 0 then some (-1) else (laws_szIntS.f p x).bind fun y => if y < 0 then some (-1) else (laws_szRows.f q s y).bind fun z => if z < 0 then some (-1) else some z) (by omega) (by omega) u1 (szThreadS_ev t ht.1 ht.2 u u0 u1) (fun v v0 v1 => ?_)
  refine lf_thenE (G := fun x k => (laws_szIntS.f p x).bind fun y => if y < 0 then some (-1) else (laws_szRows.f q s y).bind fun z => if z < 0 then some (-1) else some z) (by omega) (by omega) v1 (szCallS_ev c hc.1 hc.2 v v0 v1) (fun x x0 x1 => ?_)
  refine lf_thenE (G := fun y k => (laws_szRows.f q s y).bind fun z => if z < 0 then some (-1) else some z) (by omega) (by omega) x1 (Ev.of_eq (szIntS_eq p x x0 x1 hp)) (fun y y0 y1 => ?_)
  refine lf_lastE (by omega) (Ev.of_eq ?_)
  simp only [laws_szRows.f]
  rw [szIntS_eq q y y0 y1 hq, Option.bind_some]
  exact lf_last (by omega)
theorem toMachine_ev (w : List lWord) (d : List lDesc) (t : List lThread) (n : Int) (c : List lCall) (p q : List Int) (s : Int) (h : wtMem w d + wtTail t c p q ≤ 1048576) :
    Ev (fun k => laws_toMachine.f k w d t n c p q s) (w.map cWord, d.map cDesc, t.map cThread, n, c.map cCall, p, q, s) := by
  have c1 := ctl_nonneg wtDesc_nn d
  have c2 := ctl_nonneg wtThread_nn t
  have c3 := ctl_nonneg wtCall_nn c
  unfold wtMem wtTail at h
  have hm : Ev (fun k => laws_toMem.f k w d) (w.map cWord, d.map cDesc) := by
    simp only [laws_toMem.f]
    exact Ev.bind (toWordS_ev w (by omega)) (Ev.bind (toDescS_ev d (by omega) (by omega)) (Ev.now _))
  have hr : Ev (fun k => laws_toRows.f k q s) (q, s) := by
    simp only [laws_toRows.f]
    exact Ev.bind (toIntS_ev q (by omega)) (Ev.now _)
  simp only [laws_toMachine.f]
  exact Ev.bind hm (Ev.bind (toThreadS_ev t (by omega) (by omega)) (Ev.bind (toCallS_ev c (by omega) (by omega)) (Ev.bind (toIntS_ev p (by omega)) (Ev.bind hr (Ev.now _)))))
theorem small_all {τ σ : Type} {ct : τ → Int} {f : τ → σ} {sm : σ → Prop} (hn : ∀ x, 0 ≤ ct x) (hs : ∀ x, ct x ≤ 1048576 → sm (f x)) {l : List τ} (h : ctl ct l ≤ 1048576) : ∀ y ∈ l.map f, sm y := fun y hy => by
  obtain ⟨x, hx, rfl⟩ := List.mem_map.mp hy
  exact hs x (Int.le_trans (ctl_mem hn hx) h)
theorem eqMachine_ev (w : List lWord) (d : List lDesc) (t : List lThread) (n : Int) (c : List lCall) (p q : List Int) (s : Int) (h : wtMem w d + wtTail t c p q ≤ 1048576) :
    Ev (fun k => laws_eqMachine.f k (w.map cWord) (d.map cDesc) (t.map cThread) n (c.map cCall) p q s (w.map cWord) (d.map cDesc) (t.map cThread) n (c.map cCall) p q s) true := by
  have c1 := ctl_nonneg wtDesc_nn d
  have c2 := ctl_nonneg wtThread_nn t
  have c3 := ctl_nonneg wtCall_nn c
  unfold wtMem wtTail at h
  have hm : Ev (fun k => laws_eqMem.f k (w.map cWord) (d.map cDesc) (w.map cWord) (d.map cDesc)) true := by
    simp only [laws_eqMem.f]
    refine Ev.bind (eqWordS_ev _ (by rw [List.length_map]; omega)) ?_
    simp only [if_true]
    refine Ev.bind (eqDescS_ev _ (by rw [List.length_map]; omega) (small_all wtDesc_nn smDesc_of (by omega))) ?_
    simp only [if_true]
    exact Ev.now _
  have hr : Ev (fun k => laws_eqRows.f k q s q s) true := by
    simp only [laws_eqRows.f]
    refine Ev.bind (eqIntS_ev q (by omega)) ?_
    simp only [if_true]
    exact Ev.now _
  simp only [laws_eqMachine.f]
  refine Ev.bind hm ?_
  simp only [if_true]
  refine Ev.bind (eqThreadS_ev _ (by rw [List.length_map]; omega) (small_all wtThread_nn smThread_of (by omega))) ?_
  simp only [if_true]
  refine Ev.bind (eqCallS_ev _ (by rw [List.length_map]; omega) (small_all wtCall_nn smCall_of (by omega))) ?_
  simp only [if_true]
  refine Ev.bind (eqIntS_ev p (by omega)) ?_
  simp only [if_true]
  refine Ev.bind hr ?_
  simp only [if_true]
  exact Ev.now _
end Go.Proofs.YtmljebgideecjaaGreat.P
end
section
set_option linter.unusedSimpArgs false
set_option linter.unusedVariables false
namespace Go.Proofs.YtmljebgideecjaaGreat.P
open Go.RowKit Go.Proofs.YtmljebgideecjaaGreatW.PrintWords Go.Proofs.YtmljebgideecjaaGreatW.PrintLast Go.Proofs.YtmljebgideecjaaGreatZ
theorem digit_str {d : Int} (h0 : 0 ≤ d) (h1 : d ≤ 9) : strOfNums [(wrap64 (48 + d)) % 256] = ⟨#[UInt8.ofNat (48 + d.toNat)]⟩ := by
  have : d = 0 ∨ d = 1 ∨ d = 2 ∨ d = 3 ∨ d = 4 ∨ d = 5 ∨ d = 6 ∨ d = 7 ∨ d = 8 ∨ d = 9 := by omega
  rcases this with rfl | rfl | rfl | rfl | rfl | rfl | rfl | rfl | rfl | rfl <;> decide +kernel
theorem digit_enc {d : Int} (h0 : 0 ≤ d) (h1 : d ≤ 9) : Go.Utf8.encode (wrap32 (wrap64 (48 + d))) = ⟨#[UInt8.ofNat (48 + d.toNat)]⟩ := by
  have : d = 0 ∨ d = 1 ∨ d = 2 ∨ d = 3 ∨ d = 4 ∨ d = 5 ∨ d = 6 ∨ d = 7 ∨ d = 8 ∨ d = 9 := by omega
  rcases this with rfl | rfl | rfl | rfl | rfl | rfl | rfl | rfl | rfl | rfl <;> decide +kernel
def dgs (n : Nat) : ByteArray := if h : n < 10 then ⟨#[UInt8.ofNat (48 + n)]⟩ else dgs (n / 10) ++ ⟨#[UInt8.ofNat (48 + n % 10)]⟩
termination_by n
decreasing_by omega
theorem dgs_lt {n : Nat} (h : n < 10) : dgs n = ⟨#[UInt8.ofNat (48 + n)]⟩ := by rw [dgs, dif_pos h]
theorem dgs_ge {n : Nat} (h : ¬ n < 10) : dgs n = dgs (n / 10) ++ ⟨#[UInt8.ofNat (48 + n % 10)]⟩ := by rw [dgs, dif_neg h]
theorem dgs_size : ∀ (d n : Nat), n < 10 ^ (d + 1) → (dgs n).size ≤ d + 1 := by
  intro d
  induction d with
  | zero =>
    intro n h
    rw [dgs_lt (by simpa using h)]
    exact Nat.le_refl _
  | succ d ih =>
    intro n h
    by_cases hn : n < 10
    · rw [dgs_lt hn]; show 1 ≤ _; omega
    · rw [dgs_ge hn, ByteArray.size_append]
      have := ih (n / 10) (by rw [Nat.pow_succ] at h; omega)
      show _ + 1 ≤ _
      omega
def dstr (n : Int) : ByteArray := if n < 0 then ⟨#[45]⟩ ++ dgs n.natAbs else dgs n.natAbs
theorem dstr_size {n : Int} (h0 : -9223372036854775808 ≤ n) (h1 : n < 9223372036854775808) : (dstr n).size ≤ 20 := by
  have := dgs_size 18 n.natAbs (by omega)
  unfold dstr
  split
  · rw [ByteArray.size_append]; show 1 + _ ≤ _; omega
  · omega
theorem append_assoc_ (a b c : ByteArray) : a ++ b ++ c = a ++ (b ++ c) := ByteArray.append_assoc
theorem empty_append_ (a : ByteArray) : (⟨#[]⟩ : ByteArray) ++ a = a := ByteArray.empty_append
theorem append_empty_ (a : ByteArray) : a ++ (⟨#[]⟩ : ByteArray) = a := ByteArray.append_empty
theorem tdiv_pos (m : Nat) : Int.tdiv (m : Int) 10 = ((m / 10 : Nat) : Int) := rfl
theorem tdiv_neg (m : Nat) : Int.tdiv (-(m : Int)) 10 = -((m / 10 : Nat) : Int) := by rw [Int.neg_tdiv]; rfl
theorem tmod_pos (m : Nat) : Int.tmod (m : Int) 10 = ((m % 10 : Nat) : Int) := rfl
theorem tmod_neg (m : Nat) : Int.tmod (-(m : Int)) 10 = -((m % 10 : Nat) : Int) := by rw [Int.neg_tmod]; rfl
end Go.Proofs.YtmljebgideecjaaGreat.P
end
section
set_option linter.unusedSimpArgs false
set_option linter.unusedVariables false
namespace Go.Proofs.YtmljebgideecjaaGreat.P
open Go.RowKit Go.Proofs.YtmljebgideecjaaGreatW.PrintWords Go.Proofs.YtmljebgideecjaaGreatW.PrintLast Go.Proofs.YtmljebgideecjaaGreatZ
theorem spec_loop (b : Bool) : ∀ (d m : Nat) (neg : Bool) (out : ByteArray), m < 10 ^ d → m ≤ 9223372036854775808 → (neg = false → m < 9223372036854775808) → out.size + d ≤ 100 →
    Ev (fun k => spec_Digits.l0 k (if neg then -(m : Int) else (m : Int)) b out) ((if b then (⟨#[45]⟩ : ByteArray) else ⟨#[]⟩) ++ ((if m = 0 then ⟨#[]⟩ else dgs m) ++ out)) := by
  intro d
  induction d with
  | zero =>
    intro m neg out h _ _ hs
    obtain rfl : m = 0 := by simpa using h
    refine Ev.shift ?_
    have e : (if neg then -((0 : Nat) : Int) else ((0 : Nat) : Int)) = 0 := by cases neg <;> rfl
    simp only [e, spec_Digits.l0, if_true, empty_append_]
    cases b with
    | true =>
      have : 1 + out.size ≤ 9223372036854775807 := by omega
      simp only [this, if_true]
      exact Ev.now _
    | false =>
      simp only [Bool.false_eq_true, if_false, empty_append_]
      exact Ev.now _
  | succ d ih =>
    intro m neg out h hm hn hs
    by_cases h0 : m = 0
    · subst h0
      refine Ev.shift ?_
      have e : (if neg then -((0 : Nat) : Int) else ((0 : Nat) : Int)) = 0 := by cases neg <;> rfl
      simp only [e, spec_Digits.l0, if_true, empty_append_]
      cases b with
      | true =>
        have : 1 + out.size ≤ 9223372036854775807 := by omega
        simp only [this, if_true]
        exact Ev.now _
      | false =>
        simp only [Bool.false_eq_true, if_false, empty_append_]
        exact Ev.now _
    · have hd := ih (m / 10) neg (⟨#[UInt8.ofNat (48 + m % 10)]⟩ ++ out) (by rw [Nat.pow_succ] at h; omega) (by omega) (by intro h; have := hn h; omega)
        (by rw [ByteArray.size_append]; show 1 + _ + _ ≤ _; omega)
      have hsz : (⟨#[UInt8.ofNat (48 + m % 10)]⟩ : ByteArray).size + out.size ≤ 9223372036854775807 := by show 1 + out.size ≤ _; omega
      have hdig : strOfNums [(wrap64 (48 + ((m % 10 : Nat) : Int))) % 256] = ⟨#[UInt8.ofNat (48 + m % 10)]⟩ := digit_str (by omega) (by omega)
      have hres : (if m / 10 = 0 then (⟨#[]⟩ : ByteArray) else dgs (m / 10)) ++ (⟨#[UInt8.ofNat (48 + m % 10)]⟩ ++ out) = (if m = 0 then ⟨#[]⟩ else dgs m) ++ out := by
        rw [if_neg h0]
        by_cases h9 : m < 10
        · rw [if_pos (by omega), dgs_lt h9, empty_append_, Nat.mod_eq_of_lt h9]
        · rw [if_neg (by omega), dgs_ge h9, append_assoc_]
      rw [hres] at hd
      refine Ev.shift ?_
      cases neg with
      | false =>
        have hm' := hn rfl
        have c1 : ¬ ((m : Int) = 0) := by omega
        have c2 : ¬ (((m % 10 : Nat) : Int) < 0) := by omega
        have c3 : wrap64 ((m / 10 : Nat) : Int) = ((m / 10 : Nat) : Int) := w64 (by omega) (by omega)
        simp only [Bool.false_eq_true, if_false] at hd
        simp only [Bool.false_eq_true, if_false, spec_Digits.l0, c1, tmod_pos, c2, Option.bind_some, hdig, hsz, if_true, tdiv_pos, c3]
        exact hd
      | true =>
        have c1 : ¬ (-(m : Int) = 0) := by omega
        have c3 : wrap64 (-((m / 10 : Nat) : Int)) = -((m / 10 : Nat) : Int) := w64 (by omega) (by omega)
        simp only [if_true] at hd
        by_cases hz : m % 10 = 0
        · have c2 : ¬ (-((m % 10 : Nat) : Int) < 0) := by omega
          have hdig' : strOfNums [(wrap64 (48 + -((m % 10 : Nat) : Int))) % 256] = ⟨#[UInt8.ofNat (48 + m % 10)]⟩ := by rw [hz]; decide +kernel
          simp only [if_true, spec_Digits.l0, c1, if_false, tmod_neg, c2, Option.bind_some, hdig', hsz, tdiv_neg, c3]
          exact hd
        · have c2 : -((m % 10 : Nat) : Int) < 0 := by omega
          have c4 : wrap64 (-(-((m % 10 : Nat) : Int))) = ((m % 10 : Nat) : Int) := by rw [Int.neg_neg]; exact w64 (by omega) (by omega)
          simp only [if_true, spec_Digits.l0, c1, if_false, tmod_neg, c2, c4, Option.bind_some, hdig, hsz, tdiv_neg, c3]
          exact hd
theorem spec_Digits_ev (n : Int) (h0 : -9223372036854775808 ≤ n) (h1 : n < 9223372036854775808) : Ev (fun k => spec_Digits.f k n) (dstr n) := by
  by_cases hz : n = 0
  · subst hz
    simp only [spec_Digits.f, if_true]
    refine Ev.val ?_
    unfold dstr
    rw [if_neg (by omega)]
    exact (dgs_lt (n := 0) (by decide)).symm
  · have h := spec_loop (decide (n < 0)) 19 n.natAbs (decide (n < 0)) ⟨#[]⟩ (by omega) (by omega) (by intro h; have : ¬ n < 0 := of_decide_eq_false h; omega) (by show 0 + 19 ≤ 100; omega)
    have e : (if decide (n < 0) = true then -(n.natAbs : Int) else (n.natAbs : Int)) = n := by
      by_cases hn : n < 0
      · rw [if_pos (decide_eq_true hn)]; omega
      · rw [if_neg (by simpa using hn)]; omega
    rw [e] at h
    simp only [spec_Digits.f, hz, if_false]
    refine h.to ?_
    unfold dstr
    rw [append_empty_, if_neg (show ¬ n.natAbs = 0 by omega)]
    by_cases hn : n < 0
    · rw [if_pos (decide_eq_true hn), if_pos hn]
    · rw [if_neg (by simpa using hn), if_neg hn, empty_append_]
theorem impl_Digits_nat : ∀ (d m : Nat), m < 10 ^ (d + 1) → m < 9223372036854775808 → d ≤ 30 → Ev (fun k => impl_Digits.f k (m : Int)) (dgs m) := by
  intro d
  induction d with
  | zero =>
    intro m h hm _
    have h9 : m < 10 := by simpa using h
    refine Ev.shift ?_
    have c1 : ¬ ((m : Int) < 0) := by omega
    have c2 : (m : Int) < 10 := by omega
    simp only [impl_Digits.f, c1, if_false]
    refine Ev.shift ?_
    simp only [impl_Digits.j0, Bool.false_eq_true, c1, if_false, c2, if_true, digit_enc (d := (m : Int)) (by omega) (by omega)]
    refine Ev.val ?_
    rw [dgs_lt h9, Int.toNat_natCast]
  | succ d ih =>
    intro m h hm hd
    by_cases h9 : m < 10
    · exact ih m (by have : 10 ^ 1 ≤ 10 ^ (d + 1) := Nat.pow_le_pow_right (by decide) (by omega); omega) hm (by omega)
    · have h1 := ih (m / 10) (by rw [Nat.pow_succ] at h; omega) (by omega) (by omega)
      have hs := dgs_size 18 (m / 10) (by omega)
      refine Ev.shift ?_
      have c1 : ¬ ((m : Int) < 0) := by omega
      have c2 : ¬ ((m : Int) < 10) := by omega
      simp only [impl_Digits.f, c1, if_false]
      refine Ev.shift ?_
      have e1 : wrap64 ((m / 10 : Nat) : Int) = ((m / 10 : Nat) : Int) := w64 (by omega) (by omega)
      have e2 : Go.Utf8.encode (wrap32 (wrap64 (48 + ((m % 10 : Nat) : Int)))) = ⟨#[UInt8.ofNat (48 + m % 10)]⟩ := digit_enc (by omega) (by omega)
      have c3 : (dgs (m / 10)).size + (⟨#[UInt8.ofNat (48 + m % 10)]⟩ : ByteArray).size ≤ 9223372036854775807 := by show _ + 1 ≤ _; omega
      simp only [impl_Digits.j0, Bool.false_eq_true, c1, if_false, c2, tdiv_pos, tmod_pos, e1, e2]
      refine Ev.bind h1 ?_
      simp only [c3, if_true]
      exact Ev.val (dgs_ge h9).symm
theorem impl_Digits_ev (n : Int) (h0 : -9223372036854775808 ≤ n) (h1 : n < 9223372036854775808) : Ev (fun k => impl_Digits.f k n) (dstr n) := by
  by_cases hn : n < 0
  · obtain ⟨m, rfl⟩ : ∃ m : Nat, n = -(m : Int) := ⟨n.natAbs, by omega⟩
    have ed : dstr (-(m : Int)) = ⟨#[45]⟩ ++ dgs m := by unfold dstr; rw [if_pos hn, Int.natAbs_neg, Int.natAbs_natCast]
    rw [ed]
    refine Ev.shift ?_
    simp only [impl_Digits.f, hn, if_true]
    refine Ev.shift ?_
    by_cases h9 : -(m : Int) > -10
    · have hd := impl_Digits_nat 18 m (by omega) (by omega) (by decide)
      have hs := dgs_size 18 m (by omega)
      have e1 : wrap64 (-(-(m : Int))) = (m : Int) := by rw [Int.neg_neg]; exact w64 (by omega) (by omega)
      have c : 1 + (dgs m).size ≤ 9223372036854775807 := by omega
      simp only [impl_Digits.j0, h9, decide_true, if_true, e1]
      refine Ev.bind hd ?_
      simp only [c, if_true]
      exact Ev.now _
    · have hq : Ev (fun k => impl_Digits.f k (-((m / 10 : Nat) : Int))) (dstr (-((m / 10 : Nat) : Int))) := impl_Digits_ev (-((m / 10 : Nat) : Int)) (by omega) (by omega)
      have hr := impl_Digits_nat 18 (m % 10) (by omega) (by omega) (by decide)
      have e0 : dstr (-((m / 10 : Nat) : Int)) = ⟨#[45]⟩ ++ dgs (m / 10) := by unfold dstr; rw [if_pos (by omega), Int.natAbs_neg, Int.natAbs_natCast]
      have hs := dgs_size 18 (m / 10) (by omega)
      have hs' := dgs_size 0 (m % 10) (by simp; omega)
      have e1 : wrap64 (-((m / 10 : Nat) : Int)) = -((m / 10 : Nat) : Int) := w64 (by omega) (by omega)
      have e2 : wrap64 (-(-((m % 10 : Nat) : Int))) = ((m % 10 : Nat) : Int) := by rw [Int.neg_neg]; exact w64 (by omega) (by omega)
      have c : (dstr (-((m / 10 : Nat) : Int))).size + (dgs (m % 10)).size ≤ 9223372036854775807 := by
        rw [e0, ByteArray.size_append]; show 1 + _ + _ ≤ _; omega
      simp only [impl_Digits.j0, h9, decide_false, Bool.false_eq_true, hn, if_false, if_true, tdiv_neg, tmod_neg, e1, e2]
      refine Ev.bind hq (Ev.bind hr ?_)
      simp only [c, if_true]
      refine Ev.val ?_
      rw [e0, append_assoc_, dgs_ge (n := m) (by omega), dgs_lt (show m % 10 < 10 by omega)]
  · obtain ⟨m, rfl⟩ : ∃ m : Nat, n = (m : Int) := ⟨n.toNat, by omega⟩
    have ed : dstr (m : Int) = dgs m := by unfold dstr; rw [if_neg hn, Int.natAbs_natCast]
    rw [ed]
    exact impl_Digits_nat 18 m (by omega) (by omega) (by decide)
termination_by n.natAbs
decreasing_by omega
end Go.Proofs.YtmljebgideecjaaGreat.P
end
section
set_option linter.unusedSimpArgs false
set_option linter.unusedVariables false
namespace Go.Proofs.YtmljebgideecjaaGreat.P
open Go.RowKit Go.Proofs.YtmljebgideecjaaGreatW.PrintWords Go.Proofs.YtmljebgideecjaaGreatW.PrintLast Go.Proofs.YtmljebgideecjaaGreatZ
def keyB (b : Int) : Bool := decide (0 ≤ b ∧ b ≤ 3)
def valB (c : Int) : Bool := decide (1 ≤ c ∧ c ≤ 6)
def clsB (b : Int) : Bool := decide (0 ≤ b ∧ b ≤ 2)
def opOk (a b c : Int) : Bool :=
  if a = 1 then keyB b && valB c else if a = 2 then keyB b && valB c else if a = 3 then keyB b && (c == 0) else if a = 4 then keyB b && (c == 0)
  else if a = 5 then (b == 0) && valB c else if a = 6 then clsB b && (c == 0) else if a = 7 then (b == 0) && (c == 0) else if a = 8 then (b == 0) && (c == 0) else if a = 9 then (b == 0) && (c == 0)
  else if a = 10 then (b == 0) && valB c else false
theorem in_dec (n lo hi : Int) : (if n ≥ lo then some (decide (n ≤ hi)) else some false) = some (decide (lo ≤ n ∧ n ≤ hi)) := by
  by_cases h : n ≥ lo
  · have h' : lo ≤ n := h
    simp [h, h']
  · have h' : ¬ lo ≤ n := h
    simp [h, h']
theorem specIn_eq (n lo hi : Int) : spec_l1In.f n lo hi = some (decide (lo ≤ n ∧ n ≤ hi)) := in_dec n lo hi
theorem implFrom_eq (n lo hi : Int) : impl_from.f n lo hi = some (decide (lo ≤ n ∧ n ≤ hi)) := in_dec n lo hi
theorem spec_OpOk_at (a b c : Int) (h : 1 ≤ a ∧ a ≤ 10) (k : Nat) : spec_OpOk.f (k + 1 + 1) a b c = some (opOk a b c) := by
  have h' : a = 1 ∨ a = 2 ∨ a = 3 ∨ a = 4 ∨ a = 5 ∨ a = 6 ∨ a = 7 ∨ a = 8 ∨ a = 9 ∨ a = 10 := by omega
  simp only [spec_OpOk.f, spec_OpOk.j0, spec_OpOk.j1, spec_l4Key.f, spec_l4Val.f, spec_KeyOk.f, spec_ValOk.f, specIn_eq, Option.bind_some, opOk, keyB, valB, clsB]
  generalize decide (0 ≤ b ∧ b ≤ 3) = kb
  generalize decide (1 ≤ c ∧ c ≤ 6) = vc
  generalize decide (0 ≤ b ∧ b ≤ 2) = cb
  generalize (b == 0) = b0
  generalize (c == 0) = c0
  rcases h' with rfl | rfl | rfl | rfl | rfl | rfl | rfl | rfl | rfl | rfl <;> cases kb <;> cases vc <;> cases cb <;> cases b0 <;> cases c0 <;> rfl
theorem spec_OpOk_ev (a b c : Int) : Ev (fun k => spec_OpOk.f k a b c) (opOk a b c) := by
  by_cases h : 1 ≤ a ∧ a ≤ 10
  · refine Ev.shift (Ev.shift ?_)
    simp only [spec_OpOk_at a b c h]
    exact Ev.now _
  · have : opOk a b c = false := by
      unfold opOk
      rw [if_neg (by omega), if_neg (by omega), if_neg (by omega), if_neg (by omega), if_neg (by omega), if_neg (by omega), if_neg (by omega), if_neg (by omega), if_neg (by omega), if_neg (by omega)]
    rw [this]
    simp only [spec_OpOk.f, specIn_eq, Option.bind_some, h, decide_false, Bool.false_eq_true, if_false]
    exact Ev.now _
theorem impl_OpOk_at (a b c : Int) (h : 1 ≤ a ∧ a ≤ 10) (k : Nat) : impl_OpOk.f (k + 1 + 1 + 1) a b c = some (opOk a b c) := by
  have h' : a = 1 ∨ a = 2 ∨ a = 3 ∨ a = 4 ∨ a = 5 ∨ a = 6 ∨ a = 7 ∨ a = 8 ∨ a = 9 ∨ a = 10 := by omega
  have e1 : (if b = 0 then some (c == 0) else some false) = some ((b == 0) && (c == 0)) := by by_cases hb : b = 0 <;> simp [hb]
  have e2 : (if b = 0 then some (decide (1 ≤ c ∧ c ≤ 6)) else some false) = some ((b == 0) && decide (1 ≤ c ∧ c ≤ 6)) := by by_cases hb : b = 0 <;> simp [hb]
  simp only [impl_OpOk.f, impl_OpOk.j0, impl_OpOk.j1, impl_OpOk.j2, impl_KeyOk.f, impl_ValOk.f, impl_isClass.f, implFrom_eq, Option.bind_some, opOk, keyB, valB, clsB, e1, e2]
  generalize decide (0 ≤ b ∧ b ≤ 3) = kb
  generalize decide (1 ≤ c ∧ c ≤ 6) = vc
  generalize decide (0 ≤ b ∧ b ≤ 2) = cb
  generalize (b == 0) = b0
  generalize (c == 0) = c0
  rcases h' with rfl | rfl | rfl | rfl | rfl | rfl | rfl | rfl | rfl | rfl <;> cases kb <;> cases vc <;> cases cb <;> cases b0 <;> cases c0 <;> rfl
theorem impl_OpOk_ev (a b c : Int) : Ev (fun k => impl_OpOk.f k a b c) (opOk a b c) := by
  refine Ev.shift (Ev.shift (Ev.shift ?_))
  by_cases h : 1 ≤ a ∧ a ≤ 10
  · simp only [impl_OpOk_at a b c h]
    exact Ev.now _
  · have : opOk a b c = false := by
      unfold opOk
      rw [if_neg (by omega), if_neg (by omega), if_neg (by omega), if_neg (by omega), if_neg (by omega), if_neg (by omega), if_neg (by omega), if_neg (by omega), if_neg (by omega), if_neg (by omega)]
    rw [this]
    have h1 : ¬ a = 1 := by omega
    have h2 : ¬ a = 2 := by omega
    have h3 : ¬ a = 3 := by omega
    have h4 : ¬ a = 4 := by omega
    have h5 : ¬ a = 5 := by omega
    have h6 : ¬ a = 6 := by omega
    have h7 : ¬ a = 7 := by omega
    have h8 : ¬ a = 8 := by omega
    have h9 : ¬ a = 9 := by omega
    have h10 : ¬ a = 10 := by omega
    simp only [impl_OpOk.f, impl_OpOk.j0, impl_OpOk.j1, impl_OpOk.j2, h1, h2, h3, h4, h5, h6, h7, h8, h9, h10, beq_iff_eq, if_false]
    exact Ev.now _
def opNames : List ByteArray := [⟨#[]⟩, ⟨#[112, 117, 116]⟩, ⟨#[115, 101, 116]⟩, ⟨#[100, 101, 108]⟩, ⟨#[103, 101, 116]⟩, ⟨#[102, 105, 110, 100]⟩, ⟨#[99, 111, 117, 110, 116]⟩, ⟨#[115, 99, 97, 110]⟩, ⟨#[111, 112, 101, 110]⟩, ⟨#[109, 97, 107, 101]⟩, ⟨#[118, 105, 97]⟩]
def opName (a : Int) : ByteArray := rdOf ByteArray.empty opNames a
def hasK (a : Int) : Bool := decide (1 ≤ a ∧ a ≤ 4) || (a == 6)
def hasV (a : Int) : Bool := (a == 1) || (a == 2) || (a == 5) || (a == 10)
def sp1 : ByteArray := ⟨#[32]⟩
def withK (x : ByteArray) (a b : Int) : ByteArray := if hasK a = true then x ++ (sp1 ++ dstr b) else x
def withV (x : ByteArray) (a c : Int) : ByteArray := if hasV a = true then x ++ (sp1 ++ dstr c) else x
def optext (a b c : Int) : ByteArray := if opOk a b c = true then withV (withK (opName a) a b) a c else ⟨#[110, 111, 110, 101]⟩
def i64in (n : Int) : Prop := -9223372036854775808 ≤ n ∧ n < 9223372036854775808
theorem withK_size {x : ByteArray} {b : Int} (a : Int) (hb : i64in b) : (withK x a b).size ≤ x.size + 21 := by
  have := dstr_size hb.1 hb.2
  unfold withK
  split
  · simp only [ByteArray.size_append]; show _ + (1 + _) ≤ _; omega
  · omega
theorem withV_size {x : ByteArray} {c : Int} (a : Int) (hc : i64in c) : (withV x a c).size ≤ x.size + 21 := by
  have := dstr_size hc.1 hc.2
  unfold withV
  split
  · simp only [ByteArray.size_append]; show _ + (1 + _) ≤ _; omega
  · omega
theorem opOk_kind {a b c : Int} (h : opOk a b c = true) : 1 ≤ a ∧ a ≤ 10 := by
  apply Classical.byContradiction
  intro hn
  have : opOk a b c = false := by
    unfold opOk
    rw [if_neg (by omega), if_neg (by omega), if_neg (by omega), if_neg (by omega), if_neg (by omega), if_neg (by omega), if_neg (by omega), if_neg (by omega), if_neg (by omega), if_neg (by omega)]
  rw [this] at h
  cases h
theorem opName_size {a : Int} (h0 : 1 ≤ a) (h1 : a ≤ 10) : (opName a).size ≤ 5 := by
  have : a = 1 ∨ a = 2 ∨ a = 3 ∨ a = 4 ∨ a = 5 ∨ a = 6 ∨ a = 7 ∨ a = 8 ∨ a = 9 ∨ a = 10 := by omega
  rcases this with rfl | rfl | rfl | rfl | rfl | rfl | rfl | rfl | rfl | rfl <;> decide +kernel
theorem optext_size {a b c : Int} (hb : i64in b) (hc : i64in c) : (optext a b c).size ≤ 47 := by
  unfold optext
  split
  · rename_i h
    have hk := opOk_kind h
    have h1 := opName_size hk.1 hk.2
    have h2 := withK_size (x := opName a) a hb
    have h3 := withV_size (x := withK (opName a) a b) a hc
    omega
  · show 4 ≤ 47; decide
theorem spec_j1_ev (x : ByteArray) (a b c : Int) (hx : x.size ≤ 1000) (hc : i64in c) : Ev (fun k => spec_OpText.j1 k x a b c) (withV x a c) := by
  have hs := dstr_size hc.1 hc.2
  refine Ev.shift ?_
  have hv : spec_l4Val.f a = some (hasV a) := by
    unfold spec_l4Val.f hasV
    by_cases h1 : a = 1
    · simp [h1]
    · by_cases h2 : a = 2
      · simp [h2]
      · by_cases h5 : a = 5
        · simp [h5]
        · simp [h1, h2, h5]
  simp only [spec_OpText.j1, hv, Option.bind_some, withV]
  by_cases h : hasV a = true
  · have c1 : x.size + 1 ≤ 9223372036854775807 := by omega
    have c2 : (x ++ (⟨#[32]⟩ : ByteArray)).size + (dstr c).size ≤ 9223372036854775807 := by rw [ByteArray.size_append]; show _ + 1 + _ ≤ _; omega
    simp only [h, c1, if_true]
    refine Ev.bind (spec_Digits_ev c hc.1 hc.2) ?_
    simp only [c2, if_true]
    exact Ev.val ByteArray.append_assoc
  · simp only [h, if_false]
    exact Ev.now _
theorem spec_j0_ev (x : ByteArray) (f : Bool) (a b c : Int) (hx : x.size ≤ 500) (hb : i64in b) (hc : i64in c) : Ev (fun k => spec_OpText.j0 k x f a b c) (withV (if f = true then x ++ (sp1 ++ dstr b) else x) a c) := by
  have hs := dstr_size hb.1 hb.2
  refine Ev.shift ?_
  simp only [spec_OpText.j0]
  cases f
  · simp only [Bool.false_eq_true, if_false]
    exact spec_j1_ev x a b c (by omega) hc
  · have c1 : x.size + 1 ≤ 9223372036854775807 := by omega
    have c2 : (x ++ (⟨#[32]⟩ : ByteArray)).size + (dstr b).size ≤ 9223372036854775807 := by rw [ByteArray.size_append]; show _ + 1 + _ ≤ _; omega
    simp only [c1, if_true]
    refine Ev.bind (spec_Digits_ev b hb.1 hb.2) ?_
    simp only [c2, if_true]
    have e : x ++ (⟨#[32]⟩ : ByteArray) ++ dstr b = x ++ (sp1 ++ dstr b) := ByteArray.append_assoc
    rw [e]
    exact spec_j1_ev _ a b c (by simp only [ByteArray.size_append]; show _ + (1 + _) ≤ _; omega) hc
theorem spec_OpText_ev (a b c : Int) (hb : i64in b) (hc : i64in c) : Ev (fun k => spec_OpText.f k a b c) (optext a b c) := by
  simp only [spec_OpText.f, optext]
  refine Ev.bind (spec_OpOk_ev a b c) ?_
  by_cases h : opOk a b c = true
  · have hk := opOk_kind h
    have hn := opName_size hk.1 hk.2
    have c1 : 0 ≤ a := by omega
    have c2 : a < ((opNames.length : Nat) : Int) := by show a < ((11 : Nat) : Int); omega
    have hl : spec_l14Names.f = some opNames := rfl
    have hkey : spec_l4Key.f a = some (decide (1 ≤ a ∧ a ≤ 4)) := by simp only [spec_l4Key.f, specIn_eq, Option.bind_some]
    simp only [h, if_true, hl, Option.bind_some, c1, c2, hkey]
    by_cases hk4 : 1 ≤ a ∧ a ≤ 4
    · have := spec_j0_ev (opName a) true a b c (by omega) hb hc
      simp only [hk4, decide_true, if_true, and_self]
      have e : withK (opName a) a b = opName a ++ (sp1 ++ dstr b) := by
        unfold withK hasK
        rw [if_pos (by simp [hk4])]
      rw [e]
      exact this
    · have := spec_j0_ev (opName a) (a == 6) a b c (by omega) hb hc
      simp only [hk4, decide_false, Bool.false_eq_true, if_false]
      have e : withK (opName a) a b = if (a == 6) = true then opName a ++ (sp1 ++ dstr b) else opName a := by
        unfold withK hasK
        simp [hk4]
      rw [e]
      exact this
  · simp only [h, if_false]
    exact Ev.now _
theorem opWord_eq {a : Int} (h0 : 1 ≤ a) (h1 : a ≤ 10) : impl_opWord.f a = some (opName a, hasK a, hasV a) := by
  have : a = 1 ∨ a = 2 ∨ a = 3 ∨ a = 4 ∨ a = 5 ∨ a = 6 ∨ a = 7 ∨ a = 8 ∨ a = 9 ∨ a = 10 := by omega
  rcases this with rfl | rfl | rfl | rfl | rfl | rfl | rfl | rfl | rfl | rfl <;> rfl
theorem impl_OpText_ev (a b c : Int) (hb : i64in b) (hc : i64in c) : Ev (fun k => impl_OpText.f k a b c) (optext a b c) := by
  simp only [impl_OpText.f, optext]
  refine Ev.bind (impl_OpOk_ev a b c) ?_
  by_cases h : opOk a b c = true
  · have hk := opOk_kind h
    have hn := opName_size hk.1 hk.2
    have hsb := dstr_size hb.1 hb.2
    have hsc := dstr_size hc.1 hc.2
    have b1 : 1 + (dstr b).size ≤ 9223372036854775807 := by omega
    have b2 : (opName a).size + ((⟨#[32]⟩ : ByteArray) ++ dstr b).size ≤ 9223372036854775807 := by rw [ByteArray.size_append]; show _ + (1 + _) ≤ _; omega
    have c1 : 1 + (dstr c).size ≤ 9223372036854775807 := by omega
    have c2 : (opName a ++ ((⟨#[32]⟩ : ByteArray) ++ dstr b)).size + ((⟨#[32]⟩ : ByteArray) ++ dstr c).size ≤ 9223372036854775807 := by simp only [ByteArray.size_append]; show _ + (1 + _) + (1 + _) ≤ _; omega
    have c3 : (opName a).size + ((⟨#[32]⟩ : ByteArray) ++ dstr c).size ≤ 9223372036854775807 := by rw [ByteArray.size_append]; show _ + (1 + _) ≤ _; omega
    simp only [h, if_true, opWord_eq hk.1 hk.2, Option.bind_some, withK, withV]
    cases hK : hasK a
    · cases hV : hasV a
      · simp only [Bool.false_eq_true, if_false]
        exact Ev.now _
      · simp only [Bool.false_eq_true, if_false, if_true]
        refine Ev.bind (impl_Digits_ev c hc.1 hc.2) ?_
        simp only [c1, c3, if_true]
        exact Ev.now _
    · cases hV : hasV a
      · simp only [Bool.false_eq_true, if_false, if_true]
        refine Ev.bind (impl_Digits_ev b hb.1 hb.2) ?_
        simp only [b1, b2, if_true]
        exact Ev.now _
      · simp only [if_true]
        refine Ev.bind (impl_Digits_ev b hb.1 hb.2) ?_
        simp only [b1, b2, if_true]
        refine Ev.bind (impl_Digits_ev c hc.1 hc.2) ?_
        simp only [c1, c2, if_true]
        exact Ev.now _
  · simp only [h, if_false]
    exact Ev.now _
end Go.Proofs.YtmljebgideecjaaGreat.P
end
section
set_option linter.unusedSimpArgs false
set_option linter.unusedVariables false
namespace Go.Proofs.YtmljebgideecjaaGreat.P
open Go.RowKit Go.Proofs.YtmljebgideecjaaGreatW.PrintWords Go.Proofs.YtmljebgideecjaaGreatW.PrintLast Go.Proofs.YtmljebgideecjaaGreatZ
abbrev mW := S140
abbrev mD := S162
abbrev mE := S165
def entL : List mE → Int → Int × Int × Int × Bool
  | [], _ => (0, 0, 0, false)
  | e :: r, a => if e.f0 = a then (e.f0, e.f1, e.f2, true) else entL r a
def okE (l : List mE) : Prop := ∀ e ∈ l, i64in e.f1 ∧ i64in e.f2
theorem entL_in : ∀ (l : List mE) (a : Int), okE l → i64in (entL l a).2.1 ∧ i64in (entL l a).2.2.1
  | [], a, _ => by constructor <;> (unfold i64in; show _ ≤ (0 : Int) ∧ (0 : Int) < _; omega)
  | e :: r, a, h => by
    simp only [entL]
    split
    · exact h e (by simp)
    · exact entL_in r a (fun x hx => h x (by simp [hx]))
theorem rdE_at {l : List mE} {i : Nat} (h : i < l.length) : rd_T165 l (i : Int) = l[i] := getD_get (List.getElem?_eq_getElem h)
theorem spec_Entries_ev (a b : Int) (l : List mE) (c : Int) (q : List Int) (v : Int) (hl : l.length ≤ 9223372036854775807) : Ev (fun k => spec_Entries.f k a b l c q v) (entL l v) := by
  simp only [spec_Entries.f]
  refine (back (n := l.length) (Q := fun i => Ev (fun k => spec_Entries.l0 k v (i : Int) a b l c q) (entL (l.drop i) v)) ?_ (fun i hi ih => ?_) 0 (Nat.zero_le _))
  · refine Ev.shift ?_
    simp only [spec_Entries.l0, Int.lt_irrefl, if_false, List.drop_length, entL]
    exact Ev.now _
  · have c0 : (0 : Int) ≤ (i : Int) := by omega
    have c1 : (i : Int) < (l.length : Int) := by omega
    refine Ev.shift ?_
    rw [List.drop_eq_getElem_cons hi]
    simp only [spec_Entries.l0, c0, c1, if_true, rdE_at hi, entL, succ64 hi hl]
    by_cases h : l[i].f0 = v
    · simp only [h, if_true]; exact Ev.now _
    · simp only [h, if_false]; exact ih
theorem impl_Entries_ev (a b : Int) (l : List mE) (c : Int) (q : List Int) (v : Int) (hl : l.length ≤ 9223372036854775807) : Ev (fun k => impl_Entries.f k a b l c q v) (entL l v) := by
  simp only [impl_Entries.f]
  refine (back (n := l.length) (Q := fun i => Ev (fun k => impl_Entries.l0 k v l (l.length : Int) (i : Int)) (entL (l.drop i) v)) ?_ (fun i hi ih => ?_) 0 (Nat.zero_le _))
  · refine Ev.shift ?_
    simp only [impl_Entries.l0, Int.lt_irrefl, if_false, List.drop_length, entL]
    exact Ev.now _
  · have c0 : (0 : Int) ≤ (i : Int) := by omega
    have c1 : (i : Int) < (l.length : Int) := by omega
    refine Ev.shift ?_
    rw [List.drop_eq_getElem_cons hi]
    simp only [impl_Entries.l0, c0, c1, if_true, rdE_at hi, entL, succ64 hi hl]
    by_cases h : l[i].f0 = v
    · simp only [h, if_true]; exact Ev.now _
    · simp only [h, if_false]; exact ih
def okWs (w : List mW) : Prop := ∀ x ∈ w, i64in x.f0
def okDs (d : List mD) : Prop := ∀ x ∈ d, x.f2.length ≤ 1048576 ∧ okE x.f2
theorem valueAt_both (w : List mW) (d : List mD) (hw : w.length ≤ 1048576) (hd : d.length ≤ 1048576) (ow : okWs w) (od : okDs d) (i : Nat) (hi : i < w.length) :
    ∃ r : Int, i64in r ∧ Ev (fun k => spec_ValueAt.f k w d (i : Int)) r ∧ Ev (fun k => impl_ValueAt.f k w d (i : Int)) r := by
  have er : rd_T140 w (i : Int) = w[i] := getD_get (List.getElem?_eq_getElem hi)
  have hww : wrap64 ((w.length : Int) - 1) = w.length - 1 := w64 (by omega) (by omega)
  have c0 : (0 : Int) ≤ (i : Int) := by omega
  have c1 : (i : Int) < (w.length : Int) := by omega
  have cin : (0 : Int) ≤ (i : Int) ∧ (i : Int) ≤ (w.length : Int) - 1 := by omega
  simp only [spec_ValueAt.f, impl_ValueAt.f, specIn_eq, implFrom_eq, hww, Option.bind_some, cin, and_self, decide_true, c0, c1, if_true, er]
  by_cases h0 : w[i].f1 = 0
  · simp only [h0, if_true]
    exact ⟨_, ow _ (List.getElem_mem hi), Ev.now _, Ev.now _⟩
  · simp only [h0, if_false]
    by_cases h1 : 1 ≤ w[i].f1 ∧ w[i].f1 ≤ (d.length : Int)
    · have e1 : wrap64 (w[i].f1 - 1) = w[i].f1 - 1 := w64 (by omega) (by omega)
      have b0 : 0 ≤ w[i].f1 - 1 := by omega
      have b1 : w[i].f1 - 1 < (d.length : Int) := by omega
      obtain ⟨j, hj⟩ : ∃ j : Nat, w[i].f1 - 1 = (j : Int) := ⟨(w[i].f1 - 1).toNat, by omega⟩
      have hjl : j < d.length := by omega
      have ed : rd_T162 d (j : Int) = d[j] := getD_get (List.getElem?_eq_getElem hjl)
      obtain ⟨l1, l2⟩ := od _ (List.getElem_mem hjl)
      obtain ⟨g1, g2⟩ := entL_in d[j].f2 (i : Int) l2
      have c2 : (0 : Int) ≤ (j : Int) := by omega
      have c3 : (j : Int) < (d.length : Int) := by omega
      have e2 : wrap64 (w[i].f1 - 1) = (j : Int) := e1.trans hj
      simp only [h1, and_self, decide_true, if_true, e2, c2, c3, ed]
      refine ⟨if d[j].f0 = w[i].f2 then (if d[j].f1 = 2 then (entL d[j].f2 (i : Int)).2.2.1 else (entL d[j].f2 (i : Int)).2.1) else (entL d[j].f2 (i : Int)).2.1, ?_, ?_, ?_⟩
      · split
        · split
          · exact g2
          · exact g1
        · exact g1
      · refine Ev.bind (spec_Entries_ev _ _ d[j].f2 _ _ _ (by omega)) ?_
        by_cases p : d[j].f0 = w[i].f2
        · by_cases q : d[j].f1 = 2
          · simp only [p, q, if_true]; exact Ev.now _
          · simp only [p, q, if_true, if_false]; exact Ev.now _
        · simp only [p, if_false]; exact Ev.now _
      · refine Ev.bind (impl_Entries_ev _ _ d[j].f2 _ _ _ (by omega)) ?_
        by_cases p : d[j].f0 = w[i].f2
        · by_cases q : d[j].f1 = 2
          · simp only [p, q, if_true]; exact Ev.now _
          · simp only [p, q, if_true, if_false]; exact Ev.now _
        · simp only [p, if_false]; exact Ev.now _
    · simp only [h1, decide_false, Bool.false_eq_true, if_false]
      exact ⟨0, by unfold i64in; omega, Ev.now _, Ev.now _⟩
theorem meaning_both (w : List mW) (d : List mD) (hw : w.length ≤ 1048576) (hd : d.length ≤ 1048576) (ow : okWs w) (od : okDs d) :
    ∃ m : List Int, m.length = w.length ∧ (∀ n ∈ m, i64in n) ∧ Ev (fun k => spec_Meaning.f k w d) m ∧ Ev (fun k => impl_Meaning.f k w d) m := by
  simp only [spec_Meaning.f, impl_Meaning.f]
  have key : ∀ (n i : Nat) (x : List Int), i + n = w.length → x.length = i → (∀ v ∈ x, i64in v) → ∃ m : List Int, m.length = w.length ∧ (∀ v ∈ m, i64in v) ∧ Ev (fun k => spec_Meaning.l0 k w d x (i : Int)) m ∧ Ev (fun k => impl_Meaning.l0 k w d x (w.length : Int) (i : Int)) m := by
    intro n
    induction n with
    | zero =>
      intro i x hi hx ho
      have c : ¬ ((i : Int) < (w.length : Int)) := by omega
      refine ⟨x, by omega, ho, Ev.shift ?_, Ev.shift ?_⟩
      · simp only [spec_Meaning.l0, c, if_false]; exact Ev.now _
      · simp only [impl_Meaning.l0, c, if_false]; exact Ev.now _
    | succ n ih =>
      intro i x hi hx ho
      have hil : i < w.length := by omega
      have c : (i : Int) < (w.length : Int) := by omega
      have c2 : x.length < 17592186044416 := by omega
      obtain ⟨r, hr, h1, h2⟩ := valueAt_both w d hw hd ow od i hil
      obtain ⟨m, m1, m2, m3, m4⟩ := ih (i + 1) (x ++ [r]) (by omega) (by simp only [List.length_append, List.length_cons, List.length_nil]; omega) (fun v hv => by
        rcases List.mem_append.mp hv with h | h
        · exact ho v h
        · rw [List.mem_singleton.mp h]; exact hr)
      refine ⟨m, m1, m2, Ev.shift ?_, Ev.shift ?_⟩
      · simp only [spec_Meaning.l0, c, if_true, succ64 hil (by omega)]
        refine Ev.bind h1 ?_
        simp only [c2, if_true]
        exact m3
      · simp only [impl_Meaning.l0, c, if_true, succ64 hil (by omega)]
        refine Ev.bind h2 ?_
        simp only [c2, if_true]
        exact m4
  exact key w.length 0 [] (by omega) rfl (fun v hv => by cases hv)
end Go.Proofs.YtmljebgideecjaaGreat.P
end
section
set_option linter.unusedSimpArgs false
set_option linter.unusedVariables false
namespace Go.Proofs.YtmljebgideecjaaGreat.P
open Go.RowKit Go.Proofs.YtmljebgideecjaaGreatW.PrintWords Go.Proofs.YtmljebgideecjaaGreatW.PrintLast Go.Proofs.YtmljebgideecjaaGreatZ
def rin (l : List Int) : List Int × Int := if l.length = 20 then (l.take 4, rd l 13) else ([], 0)
theorem spec_RowsIn_eq (l : List Int) : spec_RowsIn.f l = some (rin l) := by
  simp only [spec_RowsIn.f, rin, spec_StateAt.f]
  by_cases h : l.length = 20
  · have c1 : (l.length : Int) = 20 := by omega
    have c3 : ([] : List Int).length + (l.take 4).length < 17592186044416 := by rw [List.length_take]; simp only [List.length_nil]; omega
    rw [if_pos h]
    simp only [c1, c3, if_true, Option.bind_some, show (4 : Int) ≤ 20 by decide, show (0 : Int) ≤ 13 by decide, show (13 : Int) < 20 by decide, List.nil_append]
  · have c1 : ¬ (l.length : Int) = 20 := by omega
    rw [if_neg h]
    simp only [c1, if_false]
theorem impl_RowsIn_eq (l : List Int) : impl_RowsIn.f l = some (rin l) := by
  simp only [impl_RowsIn.f, rin, impl_StateAt.f, slices_Clone_int_int.f]
  by_cases h : l.length = 20
  · have c1 : (l.length : Int) = 20 := by omega
    have c3 : (l.take 4).length ≤ 17592186044416 := by rw [List.length_take]; omega
    rw [if_pos h]
    simp only [c1, c3, if_true, Option.bind_some, show (4 : Int) ≤ 20 by decide, show (0 : Int) ≤ 13 by decide, show (13 : Int) < 20 by decide]
  · have c1 : ¬ (l.length : Int) = 20 := by omega
    rw [if_neg h]
    simp only [c1, if_false]
end Go.Proofs.YtmljebgideecjaaGreat.P
end
section
set_option linter.unusedSimpArgs false
set_option linter.unusedVariables false
namespace Go.Proofs.YtmljebgideecjaaGreat.P
open Go.RowKit Go.Proofs.YtmljebgideecjaaGreatW.PrintWords Go.Proofs.YtmljebgideecjaaGreatW.PrintLast Go.Proofs.YtmljebgideecjaaGreatZ
def jn (sep : ByteArray) (l : List ByteArray) : ByteArray := ⟨(Lib.join (l.map (·.data.toList)) sep.data.toList).toArray⟩
theorem jn_nil (sep : ByteArray) : jn sep [] = ⟨#[]⟩ := rfl
theorem ba_ext {a b : ByteArray} (h : a.data.toList = b.data.toList) : a = b := by
  cases a; cases b; congr 1; exact Array.toList_inj.mp h
theorem jn_data (sep : ByteArray) (l : List ByteArray) : (jn sep l).data.toList = Lib.join (l.map (·.data.toList)) sep.data.toList := rfl
theorem app_data (a b : ByteArray) : (a ++ b).data.toList = a.data.toList ++ b.data.toList := by rw [ByteArray.data_append, Array.toList_append]
theorem jn_one (sep x : ByteArray) : jn sep [x] = x := by
  apply ba_ext; rw [jn_data]; simp only [List.map_cons, List.map_nil]; exact Lib.join_one _ _
theorem jn_snoc (sep : ByteArray) (y : ByteArray) (l : List ByteArray) (x : ByteArray) : jn sep ((y :: l) ++ [x]) = jn sep (y :: l) ++ sep ++ x := by
  apply ba_ext
  simp only [app_data, jn_data, List.cons_append, List.map_cons, List.map_append, List.map_nil, Lib.join_cons, Lib.joinTail, List.flatten_append, List.flatten_cons, List.flatten_nil, List.append_nil, List.append_assoc]
theorem jn_snoc' (sep : ByteArray) (l : List ByteArray) (x : ByteArray) (h : l ≠ []) : jn sep (l ++ [x]) = jn sep l ++ sep ++ x := by
  cases l with
  | nil => exact absurd rfl h
  | cons y l => exact jn_snoc sep y l x
theorem jn_cons (sep y x : ByteArray) (l : List ByteArray) : jn sep (y :: x :: l) = y ++ (sep ++ jn sep (x :: l)) := by
  apply ba_ext
  simp only [app_data, jn_data, List.map_cons, Lib.join_cons, Lib.joinTail, List.flatten_cons, List.append_assoc]
theorem jn_size (sep : ByteArray) (M : Nat) : ∀ l : List ByteArray, (∀ x ∈ l, x.size ≤ M) → (jn sep l).size ≤ (M + sep.size) * l.length
  | [], _ => by rw [jn_nil]; exact Nat.zero_le _
  | [x], h => by rw [jn_one]; have := h x (by simp); simp only [List.length_cons, List.length_nil]; omega
  | x :: y :: l, h => by
    rw [jn_cons, ByteArray.size_append, ByteArray.size_append]
    have h1 := h x (by simp)
    have h2 := jn_size sep M (y :: l) (fun z hz => h z (by simp at hz ⊢; right; exact hz))
    have e : (M + sep.size) * (x :: y :: l).length = (M + sep.size) * (y :: l).length + (M + sep.size) := by simp only [List.length_cons, Nat.mul_add, Nat.mul_one]
    rw [e]
    omega
theorem join_ev (sep : ByteArray) (l : List ByteArray) (h1 : (jn sep l).size ≤ 140737488355328) (h2 : l.length ≤ 140737488355328) : strings_Join.f l sep = some (jn sep l) := by
  have h1' : (Lib.join (l.map (·.data.toList)) sep.data.toList).length ≤ 140737488355328 := by rw [← jn_data, Array.length_toList]; exact h1
  simp only [strings_Join.f]
  exact if_pos ⟨h1', h2⟩
theorem take_one {α : Type _} {l : List α} {i : Nat} (h : i < l.length) : l.take (i + 1) = l.take i ++ [l[i]] := (List.take_append_getElem h).symm
end Go.Proofs.YtmljebgideecjaaGreat.P
end
section
set_option linter.unusedSimpArgs false
set_option linter.unusedVariables false
namespace Go.Proofs.YtmljebgideecjaaGreat.P
open Go.RowKit Go.Proofs.YtmljebgideecjaaGreatW.PrintWords Go.Proofs.YtmljebgideecjaaGreatW.PrintLast Go.Proofs.YtmljebgideecjaaGreatZ
def comma : ByteArray := ⟨#[44]⟩
def i64s (l : List Int) : Prop := ∀ n ∈ l, -9223372036854775808 ≤ n ∧ n < 9223372036854775808
def ntext (l : List Int) : ByteArray := jn comma (l.map dstr)
theorem ntext_size (l : List Int) (h : i64s l) : (ntext l).size ≤ 21 * l.length := by
  have := jn_size comma 20 (l.map dstr) (by intro x hx; obtain ⟨a, ha, rfl⟩ := List.mem_map.mp hx; exact dstr_size (h a ha).1 (h a ha).2)
  rw [List.length_map] at this
  exact this
theorem rdI_nt {l : List Int} {i : Nat} (h : i < l.length) : rd l (i : Int) = l[i] := rd_get (List.getElem?_eq_getElem h)
theorem ntext_take {l : List Int} {i : Nat} (h : i < l.length) : ntext (l.take (i + 1)) = if i > 0 then ntext (l.take i) ++ comma ++ dstr l[i] else ntext (l.take i) ++ dstr l[i] := by
  rw [take_one h]
  unfold ntext
  rw [List.map_append, List.map_cons, List.map_nil]
  split
  · rename_i hi
    refine jn_snoc' _ _ _ ?_
    intro e
    have e2 : (List.map dstr (List.take i l)).length = 0 := by rw [e]; rfl
    rw [List.length_map, List.length_take] at e2
    omega
  · have : i = 0 := by omega
    subst this
    simp only [List.take_zero, List.map_nil, List.nil_append, jn_one, jn_nil]
    exact ByteArray.empty_append.symm
theorem i64s_take {l : List Int} (h : i64s l) (i : Nat) : i64s (l.take i) := fun n hn => h n (List.mem_of_mem_take hn)
theorem spec_NumsText_ev (l : List Int) (hl : l.length ≤ 1048576) (hi64 : i64s l) : Ev (fun k => spec_NumsText.f k l) (ntext l) := by
  simp only [spec_NumsText.f]
  refine (back (n := l.length) (Q := fun i => Ev (fun k => spec_NumsText.l0 k l (ntext (l.take i)) (i : Int)) (ntext l)) ?_ (fun i hi ih => ?_) 0 (Nat.zero_le _))
  · refine Ev.shift ?_
    simp only [spec_NumsText.l0, Int.lt_irrefl, if_false, List.take_length]
    exact Ev.now _
  · have h0 : (0 : Int) ≤ (i : Int) := by omega
    have h1 : (i : Int) < (l.length : Int) := by omega
    have hs := ntext_size (l.take i) (i64s_take hi64 i)
    have hw := hi64 l[i] (List.getElem_mem hi)
    have hv := dstr_size hw.1 hw.2
    rw [List.length_take] at hs
    refine Ev.shift ?_
    have e := ntext_take hi
    by_cases h2 : i > 0
    · have h3 : (i : Int) > 0 := by omega
      have h4 : (ntext (l.take i)).size + 1 ≤ 9223372036854775807 := by omega
      have h5 : (ntext (l.take i) ++ (⟨#[44]⟩ : ByteArray)).size + (dstr l[i]).size ≤ 9223372036854775807 := by rw [ByteArray.size_append]; show _ + 1 + _ ≤ _; omega
      rw [if_pos h2] at e
      rw [e] at ih
      simp only [spec_NumsText.l0, h1, h3, h4, h0, if_true, rdI_nt hi]
      refine Ev.bind (spec_Digits_ev l[i] hw.1 hw.2) ?_
      simp only [h5, if_true, succ64 hi (by omega)]
      exact ih
    · have h3 : ¬ (i : Int) > 0 := by omega
      have h5 : (ntext (l.take i)).size + (dstr l[i]).size ≤ 9223372036854775807 := by omega
      rw [if_neg h2] at e
      rw [e] at ih
      simp only [spec_NumsText.l0, h1, h3, h0, if_true, if_false, rdI_nt hi]
      refine Ev.bind (spec_Digits_ev l[i] hw.1 hw.2) ?_
      simp only [h5, if_true, succ64 hi (by omega)]
      exact ih
theorem impl_NumsText_ev (l : List Int) (hl : l.length ≤ 1048576) (hi64 : i64s l) : Ev (fun k => impl_NumsText.f k l) (ntext l) := by
  simp only [impl_NumsText.f]
  refine (back (n := l.length) (Q := fun i => Ev (fun k => impl_NumsText.l0 k ((l.take i).map dstr) l (l.length : Int) (i : Int)) (ntext l)) ?_ (fun i hi ih => ?_) 0 (Nat.zero_le _))
  · refine Ev.shift ?_
    have hs := ntext_size l hi64
    simp only [impl_NumsText.l0, Int.lt_irrefl, if_false, List.take_length]
    have e : strings_Join.f (l.map dstr) ⟨#[44]⟩ = some (ntext l) := join_ev comma (l.map dstr) (by show (ntext l).size ≤ _; omega) (by rw [List.length_map]; omega)
    rw [e, Option.bind_some]
    exact Ev.now _
  · have h0 : (0 : Int) ≤ (i : Int) := by omega
    have h1 : (i : Int) < (l.length : Int) := by omega
    have hw := hi64 l[i] (List.getElem_mem hi)
    refine Ev.shift ?_
    have h5 : ((l.take i).map dstr).length < 8796093022208 := by rw [List.length_map, List.length_take]; omega
    rw [take_one hi, List.map_append, List.map_cons, List.map_nil] at ih
    simp only [impl_NumsText.l0, h1, h0, if_true, rdI_nt hi]
    refine Ev.bind (impl_Digits_ev l[i] hw.1 hw.2) ?_
    simp only [h5, if_true, succ64 hi (by omega)]
    exact ih
end Go.Proofs.YtmljebgideecjaaGreat.P
end

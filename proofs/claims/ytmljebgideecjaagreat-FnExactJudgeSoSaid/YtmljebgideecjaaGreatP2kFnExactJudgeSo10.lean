/- A part of the proof of the law FnExactJudgeSo: texts of this seat, merged (words, printed functions of the program, plain lemmas). Conditions: none of its own. -/
import Derived.Test.YtmljebgideecjaaGreatP2kFnExactJudgeSo1
import Derived.Test.YtmljebgideecjaaGreatP2kFnExactJudgeSo4
import Derived.Test.YtmljebgideecjaaGreatP2kFnExactJudgeSo5
import Derived.Test.YtmljebgideecjaaGreatP2kFnExactJudgeSo6
import Derived.Test.YtmljebgideecjaaGreatP2kFnExactJudgeSo7
import Derived.Test.YtmljebgideecjaaGreatP2kFnExactJudgeSo8
import Derived.Test.YtmljebgideecjaaGreatP2kFnExactJudgeSo9
set_option linter.unusedSimpArgs false
set_option linter.unusedVariables false
set_option maxHeartbeats 8000000
set_option maxRecDepth 100000
namespace Go.Proofs.YtmljebgideecjaaGreat.P2
open Go.Proofs.YtmljebgideecjaaGreatZ Go.RowKit Go.Proofs.YtmljebgideecjaaGreatW.PrintWords Go.Proofs.YtmljebgideecjaaGreatW.PrintLast Go.Proofs.YtmljebgideecjaaGreatW.PrintMore
attribute [local go_sem] max2_int min2_int max_two min_two max_three min_three max_four min_four   -- for this text's walks alone
def laws_toMachine.f (k : Nat) (l0_0 : List (S176)) (l0_1 : List (S155)) (l0_2 : List (S114)) (a0_3 : Int) (l0_4 : List (S119)) (l0_5 : List Int) (l0_6 : List Int) (a0_7 : Int) : Option ((List (S140)) × (List (S162)) × (List (S97)) × Int × (List (S73)) × List Int × List Int × Int) := (laws_toMem.f k l0_0 l0_1).bind fun bt104 => ((laws_toThreadS.f k l0_2).bind fun t110 => ((laws_toCallS.f k l0_4).bind fun t113 => ((laws_toIntS.f k l0_5).bind fun t116 => ((laws_toRows.f k l0_6 a0_7).bind fun bt119 => (some (bt104.1, bt104.2, t110, a0_3, t113, t116, bt119.1, bt119.2))))))
theorem laws_toMachine.calls (k : Nat) (A0_0 : Option Addr) (c0_0 : Nat) (l0_0 : List (S176)) (A0_1 : Option Addr) (c0_1 : Nat) (l0_1 : List (S155)) (A0_2 : Option Addr) (c0_2 : Nat) (l0_2 : List (S114)) (a0_3 : Int) (A0_4 : Option Addr) (c0_4 : Nat) (l0_4 : List (S119)) (A0_5 : Option Addr) (c0_5 : Nat) (l0_5 : List Int) (A0_6 : Option Addr) (c0_6 : Nat) (l0_6 : List Int) (a0_7 : Int) (r1 : List (S140)) (r2 : List (S162)) (r3 : List (S97)) (r4 : Int) (r5 : List (S73)) (r6 : List Int) (r7 : List Int) (r8 : Int) (w : World) (hr0_0 : Kd.C k176 w A0_0 l0_0.length l0_0) (hc0_0 : l0_0.length ≤ c0_0) (hr0_1 : Kd.C k155 w A0_1 l0_1.length l0_1) (hc0_1 : l0_1.length ≤ c0_1) (hr0_2 : Kd.C k114 w A0_2 l0_2.length l0_2) (hc0_2 : l0_2.length ≤ c0_2) (hr0_4 : Kd.C k119 w A0_4 l0_4.length l0_4) (hc0_4 : l0_4.length ≤ c0_4) (hr0_5 : Kd.C (Kd.int .i64) w A0_5 l0_5.length l0_5) (hc0_5 : l0_5.length ≤ c0_5) (hr0_6 : Kd.C (Kd.int .i64) w A0_6 l0_6.length l0_6) (hc0_6 : l0_6.length ≤ c0_6) (h : laws_toMachine.f k l0_0 l0_1 l0_2 a0_3 l0_4 l0_5 l0_6 a0_7 = some (r1, r2, r3, r4, r5, r6, r7, r8)) :
  Calls Tryz.prog 12 #[.agg #[.slice A0_0 l0_0.length c0_0, .slice A0_1 l0_1.length c0_1, .slice A0_2 l0_2.length c0_2, .int .i64 a0_3, .slice A0_4 l0_4.length c0_4, .slice A0_5 l0_5.length c0_5, .slice A0_6 l0_6.length c0_6, .int .i64 a0_7]] w fun e w' => ∃ v0_ v1_ v2_ v4_ v5_ v6_ : Value, e = .returned (.agg #[v0_, v1_, v2_, .int .i64 r4, v4_, v5_, v6_, .int .i64 r8]) ∧ Kd.R k140 140 w' w.heap.size (fun _ => True) v0_ r1 ∧ Kd.S k162 162 w' w.heap.size (fun k_ => some k_ ≠ (v5_ : Value).ownBlock ∧ some k_ ≠ (v6_ : Value).ownBlock) v1_ r2 ∧ Kd.S k97 97 w' w.heap.size (fun _ => True) v2_ r3 ∧ Kd.S k73 73 w' w.heap.size (fun k_ => some k_ ≠ (v5_ : Value).ownBlock ∧ some k_ ≠ (v6_ : Value).ownBlock) v4_ r5 ∧ Kd.R (Kd.int .i64) 3 w' w.heap.size (fun k_ => some k_ ≠ (v6_ : Value).ownBlock) v5_ r6 ∧ Kd.R (Kd.int .i64) 3 w' w.heap.size (fun k_ => some k_ ≠ (v5_ : Value).ownBlock) v6_ r7 ∧ Below w.heap.size w w' := by
 have hu32 := Tryz.underlying32
 have hu43 := Tryz.underlying43
 have hu25 := Tryz.underlying25
 have hu38 := Tryz.underlying38
 have hu30 := Tryz.underlying30
 have hu41 := Tryz.underlying41
 have HR0_0 := aM hr0_0
 have HC0_0 := aM hc0_0
 clear hr0_0 hc0_0
 have HR0_1 := aM hr0_1
 have HC0_1 := aM hc0_1
 clear hr0_1 hc0_1
 have HR0_2 := aM hr0_2
 have HC0_2 := aM hc0_2
 clear hr0_2 hc0_2
 have HR0_4 := aM hr0_4
 have HC0_4 := aM hc0_4
 clear hr0_4 hc0_4
 have HR0_5 := aM hr0_5
 have HC0_5 := aM hc0_5
 clear hr0_5 hc0_5
 have HR0_6 := aM hr0_6
 have HC0_6 := aM hc0_6
 clear hr0_6 hc0_6
 have HB := aM (Below.refl w.heap.size w)
 have H := h
 unfold laws_toMachine.f at H
 clear h
 replace H := bE H; obtain ⟨⟨t104, t107⟩, A2, H⟩ := H
 try dsimp only at H
 replace H := bE H; obtain ⟨t110, A3, H⟩ := H
 replace H := bE H; obtain ⟨t113, A4, H⟩ := H
 replace H := bE H; obtain ⟨t116, A5, H⟩ := H
 replace H := bE H; obtain ⟨⟨t119, t122⟩, A6, H⟩ := H
 try dsimp only at H
 simp only [Option.some.injEq, Prod.mk.injEq] at H
 obtain ⟨rfl, rfl, rfl, rfl, rfl, rfl, rfl, rfl⟩ := H
 go_enter Tryz.func12, Tryz.ntmps12
 go_wp2_with (first | (refine boxE 1 #[.slice A0_0 l0_0.length c0_0, .slice A0_1 l0_1.length c0_1, .slice A0_2 l0_2.length c0_2, .int .i64 a0_3, .slice A0_4 l0_4.length c0_4, .slice A0_5 l0_5.length c0_5, .slice A0_6 l0_6.length c0_6, .int .i64 a0_7] 32 ?_; intro gbz1 hg wz1 hbox hb; have BKz1 := aM (hbox); have GWz1 := aG hg HB; have GEz1 := aG hg HB; replace HB := aS HB hb; clear hb hbox hg) | (refine boxE 2 #[.slice none 0 0, .slice none 0 0, .slice none 0 0, .int .i64 0, .slice none 0 0, .slice none 0 0, .slice none 0 0, .int .i64 0] 43 ?_; intro gbz2 hg wz2 hbox hb; have BKz2 := aM (hbox); have GWz2 := aG hg HB; have GEz2 := aG hg HB; have NBz1 := aL hg BKz1; have NBz2 := aR hg BKz1; replace BKz1 := aB BKz1 hb; replace HB := aS HB hb; clear hb hbox hg) | (refine boxE 3 #[.slice none 0 0, .slice none 0 0, .slice none 0 0, .int .i64 0, .slice none 0 0, .slice none 0 0, .slice none 0 0, .int .i64 0] 43 ?_; intro gbz3 hg wz3 hbox hb; have BKz3 := aM (hbox); have GWz3 := aG hg HB; have GEz3 := aG hg HB; have NBz3 := aL hg BKz1; have NBz4 := aR hg BKz1; have NBz5 := aL hg BKz2; have NBz6 := aR hg BKz2; replace BKz1 := aB BKz1 hb; replace BKz2 := aB BKz2 hb; replace HB := aS HB hb; clear hb hbox hg; have hnbz1 := NBz1.out; have hncz1 := NBz2.out; have hnbz2 := NBz3.out; have hncz2 := NBz4.out; have hczz1 := cZ8 BKz1.out) | (refine goesM 44 6 Tryz.func44 #[.agg #[.slice A0_0 l0_0.length c0_0, .slice A0_1 l0_1.length c0_1]] ?_; refine (laws_toMem.calls _ _ _ _ _ _ _ _ _ _ (cC HR0_0.out HB.out) HC0_0.out (cC HR0_1.out HB.out) HC0_1.out A2.out).mono ?_; rintro e wz4 ⟨vz1, vz2, rfl, hoz1, hoz2, hb⟩; refine ⟨_, rfl, ?_⟩; have HOz1 := aM (Kd.R_lower hoz1 (below_size (hX HB.out))); have HOz2 := aM (Kd.S_lower hoz2 (below_size (hX HB.out))); replace BKz1 := aB BKz1 hb; replace BKz2 := aB BKz2 hb; replace BKz3 := aB BKz3 hb; replace HB := aS HB hb; clear hb hoz1 hoz2; obtain ⟨Aoz1, coz1, eoz1⟩ := Kd.R_slice HOz1.out; subst eoz1; have hnbz3 := NBz6.out; have hncz3 := NBz5.out; have hczz9 := cZ8 BKz3.out; obtain ⟨Aoz2, coz2, eoz2⟩ := Kd.S_slice HOz2.out; subst eoz2; have hczz17 := cZ8 BKz1.out) | (refine goesM 45 10 Tryz.func45 #[.slice A0_2 l0_2.length c0_2] ?_; refine (laws_toThreadS.calls k _ _ l0_2 t110 _ (by exact Kd.C_below HR0_2.out (hX HB.out)) HC0_2.out A3.out).mono ?_; rintro e wz5 ⟨vz3, rfl, hoz1, hb⟩; refine ⟨_, rfl, ?_⟩; have HOz3 := aM (Kd.S_lower hoz1 (below_size (hX HB.out))); replace HOz1 := aM (Kd.R_below (rF HOz1.out BKz3.out) hb); replace HOz2 := aM (Kd.S_below (sF HOz2.out BKz3.out) hb); replace BKz1 := aF BKz1 hb; replace BKz2 := aF BKz2 hb; replace BKz3 := aM (blk_below (g := gbz3) (o := .cells #[.slice Aoz1 t104.length coz1, .slice Aoz2 t107.length coz2, .slice none 0 0, .int .i64 0, .slice none 0 0, .slice none 0 0, .slice none 0 0, .int .i64 0] 43 (0, 0)) (bP BKz3.out) hb); replace HB := aS HB hb; clear hb hoz1; obtain ⟨Aoz3, coz3, eoz3⟩ := Kd.S_slice HOz3.out; subst eoz3; have hczz25 := cZ8 BKz3.out; have hczz33 := cZ8 BKz1.out) | (refine goesM 46 17 Tryz.func46 #[.slice A0_4 l0_4.length c0_4] ?_; refine (laws_toCallS.calls k _ _ l0_4 t113 _ (by exact Kd.C_below HR0_4.out (hX HB.out)) HC0_4.out A4.out).mono ?_; rintro e wz6 ⟨vz4, rfl, hoz1, hb⟩; refine ⟨_, rfl, ?_⟩; have HOz4 := aM (Kd.S_lower hoz1 (below_size (hX HB.out))); replace HOz1 := aM (Kd.R_below (rF HOz1.out BKz3.out) hb); replace HOz2 := aM (Kd.S_below (sF HOz2.out BKz3.out) hb); replace HOz3 := aM (Kd.S_below (sF HOz3.out BKz3.out) hb); replace BKz1 := aF BKz1 hb; replace BKz2 := aF BKz2 hb; replace BKz3 := aM (blk_below (g := gbz3) (o := .cells #[.slice Aoz1 t104.length coz1, .slice Aoz2 t107.length coz2, .slice Aoz3 t110.length coz3, .int .i64 a0_3, .slice none 0 0, .slice none 0 0, .slice none 0 0, .int .i64 0] 43 (0, 0)) (bP BKz3.out) hb); replace HB := aS HB hb; clear hb hoz1; obtain ⟨Aoz4, coz4, eoz4⟩ := Kd.S_slice HOz4.out; subst eoz4; have hczz41 := cZ8 BKz3.out; have hczz49 := cZ8 BKz1.out) | (refine goesM 47 21 Tryz.func47 #[.slice A0_5 l0_5.length c0_5] ?_; refine (laws_toIntS.calls k _ _ l0_5 t116 _ (by exact Kd.C_below HR0_5.out (hX HB.out)) HC0_5.out A5.out).mono ?_; rintro e wz7 ⟨vz5, rfl, hoz1, hb⟩; refine ⟨_, rfl, ?_⟩; have HOz5 := aM (Kd.R_lower hoz1 (below_size (hX HB.out))); replace HOz1 := aM (Kd.R_below (rF HOz1.out BKz3.out) hb); replace HOz2 := aM (Kd.S_elder' (sF HOz2.out BKz3.out) (Kd.R_base hoz1) hb); replace HOz3 := aM (Kd.S_below (sF HOz3.out BKz3.out) hb); replace HOz4 := aM (Kd.S_elder' (sF HOz4.out BKz3.out) (Kd.R_base hoz1) hb); replace BKz1 := aF BKz1 hb; replace BKz2 := aF BKz2 hb; replace BKz3 := aM (blk_below (g := gbz3) (o := .cells #[.slice Aoz1 t104.length coz1, .slice Aoz2 t107.length coz2, .slice Aoz3 t110.length coz3, .int .i64 a0_3, .slice Aoz4 t113.length coz4, .slice none 0 0, .slice none 0 0, .int .i64 0] 43 (0, 0)) (bP BKz3.out) hb); replace HB := aS HB hb; clear hb hoz1; obtain ⟨Aoz5, coz5, eoz5⟩ := Kd.R_slice HOz5.out; subst eoz5; have hczz57 := cZ8 BKz3.out; have hczz65 := cZ8 BKz1.out) | (refine goesM 20 25 Tryz.func20 #[.agg #[.slice A0_6 l0_6.length c0_6, .int .i64 a0_7]] ?_; refine (laws_toRows.calls k _ _ l0_6 a0_7 t119 t122 _ (by exact Kd.C_below HR0_6.out (hX HB.out)) HC0_6.out A6.out).mono ?_; rintro e wz8 ⟨vz6, rfl, hoz1, hb⟩; refine ⟨_, rfl, ?_⟩; have HOz6 := aM (Kd.R_lower (Kd.R_new' hoz1 (Kd.R_lt (rF HOz5.out BKz3.out))) (below_size (hX HB.out))); replace HOz1 := aM (Kd.R_below (rF HOz1.out BKz3.out) hb); replace HOz2 := aM (Kd.S_elder' (sF HOz2.out BKz3.out) (Kd.R_base hoz1) hb); replace HOz3 := aM (Kd.S_below (sF HOz3.out BKz3.out) hb); replace HOz4 := aM (Kd.S_elder' (sF HOz4.out BKz3.out) (Kd.R_base hoz1) hb); replace HOz5 := aM (Kd.R_elder' (rF HOz5.out BKz3.out) (Kd.R_base hoz1) hb); replace BKz1 := aF BKz1 hb; replace BKz2 := aF BKz2 hb; replace BKz3 := aM (blk_below (g := gbz3) (o := .cells #[.slice Aoz1 t104.length coz1, .slice Aoz2 t107.length coz2, .slice Aoz3 t110.length coz3, .int .i64 a0_3, .slice Aoz4 t113.length coz4, .slice Aoz5 t116.length coz5, .slice none 0 0, .int .i64 0] 43 (0, 0)) (bP BKz3.out) hb); replace HB := aS HB hb; clear hb hoz1; obtain ⟨Aoz6, coz6, eoz6⟩ := Kd.R_slice HOz6.out; subst eoz6; have hczz73 := cZ8 BKz3.out; have hczz81 := cZ8 BKz2.out))
 refine bodyPost_ret (results_cell_row rfl _ _ gbz2 43 #[.slice Aoz1 t104.length coz1, .slice Aoz2 t107.length coz2, .slice Aoz3 t110.length coz3, .int .i64 a0_3, .slice Aoz4 t113.length coz4, .slice Aoz5 t116.length coz5, .slice Aoz6 t119.length coz6, .int .i64 t122] (0, 0) _ rfl (bP BKz2.out) Tryz.underlying43 rfl (by kernel_rfl)) rfl ?_
 exact ⟨_, _, _, _, _, _, rE, (rT (h := by exact Kd.R_mono (Kd.R_far (p := ⟨gbz2, 7, none⟩) (Kd.R_far (p := ⟨gbz2, 6, none⟩) (Kd.R_far (p := ⟨gbz2, 5, none⟩) (Kd.R_far (p := ⟨gbz2, 4, none⟩) (Kd.R_far (p := ⟨gbz2, 3, none⟩) (Kd.R_far (p := ⟨gbz2, 2, none⟩) (Kd.R_far (p := ⟨gbz2, 1, none⟩) (Kd.R_far (p := ⟨gbz2, 0, none⟩) (Kd.R_far (p := ⟨gbz3, 7, none⟩) (Kd.R_far (p := ⟨gbz3, 6, none⟩) (Kd.R_types (Kd.R_types HOz1.out BKz3.out (by decide)) BKz2.out (by decide)) (fun _ hk => hk.1.2) (.slice Aoz6 t119.length coz6)) (fun _ hk => hk.1.2) (.int .i64 t122)) (fun _ hk => hk.2) (.slice Aoz1 t104.length coz1)) (fun _ hk => hk.2) (.slice Aoz2 t107.length coz2)) (fun _ hk => hk.2) (.slice Aoz3 t110.length coz3)) (fun _ hk => hk.2) (.int .i64 a0_3)) (fun _ hk => hk.2) (.slice Aoz4 t113.length coz4)) (fun _ hk => hk.2) (.slice Aoz5 t116.length coz5)) (fun _ hk => hk.2) (.slice Aoz6 t119.length coz6)) (fun _ hk => hk.2) (.int .i64 t122)) (fun _ hk => trivial))), by (with_reducible repeat (first | apply Kd.S_alloc | apply Kd.S_drewN | apply Kd.S_drew)); exact Kd.S_mono (Kd.S_far (p := ⟨gbz2, 7, none⟩) (Kd.S_far (p := ⟨gbz2, 6, none⟩) (Kd.S_far (p := ⟨gbz2, 5, none⟩) (Kd.S_far (p := ⟨gbz2, 4, none⟩) (Kd.S_far (p := ⟨gbz2, 3, none⟩) (Kd.S_far (p := ⟨gbz2, 2, none⟩) (Kd.S_far (p := ⟨gbz2, 1, none⟩) (Kd.S_far (p := ⟨gbz2, 0, none⟩) (Kd.S_far (p := ⟨gbz3, 7, none⟩) (Kd.S_far (p := ⟨gbz3, 6, none⟩) (Kd.S_types (Kd.S_types HOz2.out BKz3.out (by decide)) BKz2.out (by decide)) (fun _ hk => hk.1.2) (.slice Aoz6 t119.length coz6)) (fun _ hk => hk.1.2) (.int .i64 t122)) (fun _ hk => hk.2) (.slice Aoz1 t104.length coz1)) (fun _ hk => hk.2) (.slice Aoz2 t107.length coz2)) (fun _ hk => hk.2) (.slice Aoz3 t110.length coz3)) (fun _ hk => hk.2) (.int .i64 a0_3)) (fun _ hk => hk.2) (.slice Aoz4 t113.length coz4)) (fun _ hk => hk.2) (.slice Aoz5 t116.length coz5)) (fun _ hk => hk.2) (.slice Aoz6 t119.length coz6)) (fun _ hk => hk.2) (.int .i64 t122)) (fun _ hk => ⟨hk.1.1.1.2, hk.1.1.2⟩), by (with_reducible repeat (first | apply Kd.S_alloc | apply Kd.S_drewN | apply Kd.S_drew)); exact Kd.S_mono (Kd.S_far (p := ⟨gbz2, 7, none⟩) (Kd.S_far (p := ⟨gbz2, 6, none⟩) (Kd.S_far (p := ⟨gbz2, 5, none⟩) (Kd.S_far (p := ⟨gbz2, 4, none⟩) (Kd.S_far (p := ⟨gbz2, 3, none⟩) (Kd.S_far (p := ⟨gbz2, 2, none⟩) (Kd.S_far (p := ⟨gbz2, 1, none⟩) (Kd.S_far (p := ⟨gbz2, 0, none⟩) (Kd.S_far (p := ⟨gbz3, 7, none⟩) (Kd.S_far (p := ⟨gbz3, 6, none⟩) (Kd.S_types (Kd.S_types HOz3.out BKz3.out (by decide)) BKz2.out (by decide)) (fun _ hk => hk.1.2) (.slice Aoz6 t119.length coz6)) (fun _ hk => hk.1.2) (.int .i64 t122)) (fun _ hk => hk.2) (.slice Aoz1 t104.length coz1)) (fun _ hk => hk.2) (.slice Aoz2 t107.length coz2)) (fun _ hk => hk.2) (.slice Aoz3 t110.length coz3)) (fun _ hk => hk.2) (.int .i64 a0_3)) (fun _ hk => hk.2) (.slice Aoz4 t113.length coz4)) (fun _ hk => hk.2) (.slice Aoz5 t116.length coz5)) (fun _ hk => hk.2) (.slice Aoz6 t119.length coz6)) (fun _ hk => hk.2) (.int .i64 t122)) (fun _ hk => trivial), by (with_reducible repeat (first | apply Kd.S_alloc | apply Kd.S_drewN | apply Kd.S_drew)); exact Kd.S_mono (Kd.S_far (p := ⟨gbz2, 7, none⟩) (Kd.S_far (p := ⟨gbz2, 6, none⟩) (Kd.S_far (p := ⟨gbz2, 5, none⟩) (Kd.S_far (p := ⟨gbz2, 4, none⟩) (Kd.S_far (p := ⟨gbz2, 3, none⟩) (Kd.S_far (p := ⟨gbz2, 2, none⟩) (Kd.S_far (p := ⟨gbz2, 1, none⟩) (Kd.S_far (p := ⟨gbz2, 0, none⟩) (Kd.S_far (p := ⟨gbz3, 7, none⟩) (Kd.S_far (p := ⟨gbz3, 6, none⟩) (Kd.S_types (Kd.S_types HOz4.out BKz3.out (by decide)) BKz2.out (by decide)) (fun _ hk => hk.1.2) (.slice Aoz6 t119.length coz6)) (fun _ hk => hk.1.2) (.int .i64 t122)) (fun _ hk => hk.2) (.slice Aoz1 t104.length coz1)) (fun _ hk => hk.2) (.slice Aoz2 t107.length coz2)) (fun _ hk => hk.2) (.slice Aoz3 t110.length coz3)) (fun _ hk => hk.2) (.int .i64 a0_3)) (fun _ hk => hk.2) (.slice Aoz4 t113.length coz4)) (fun _ hk => hk.2) (.slice Aoz5 t116.length coz5)) (fun _ hk => hk.2) (.slice Aoz6 t119.length coz6)) (fun _ hk => hk.2) (.int .i64 t122)) (fun _ hk => ⟨hk.1.1.1.2, hk.1.1.2⟩), (rT (h := by exact Kd.R_mono (Kd.R_far (p := ⟨gbz2, 7, none⟩) (Kd.R_far (p := ⟨gbz2, 6, none⟩) (Kd.R_far (p := ⟨gbz2, 5, none⟩) (Kd.R_far (p := ⟨gbz2, 4, none⟩) (Kd.R_far (p := ⟨gbz2, 3, none⟩) (Kd.R_far (p := ⟨gbz2, 2, none⟩) (Kd.R_far (p := ⟨gbz2, 1, none⟩) (Kd.R_far (p := ⟨gbz2, 0, none⟩) (Kd.R_far (p := ⟨gbz3, 7, none⟩) (Kd.R_far (p := ⟨gbz3, 6, none⟩) (Kd.R_types (Kd.R_types HOz5.out BKz3.out (by decide)) BKz2.out (by decide)) (fun _ hk => hk.1.2) (.slice Aoz6 t119.length coz6)) (fun _ hk => hk.1.2) (.int .i64 t122)) (fun _ hk => hk.2) (.slice Aoz1 t104.length coz1)) (fun _ hk => hk.2) (.slice Aoz2 t107.length coz2)) (fun _ hk => hk.2) (.slice Aoz3 t110.length coz3)) (fun _ hk => hk.2) (.int .i64 a0_3)) (fun _ hk => hk.2) (.slice Aoz4 t113.length coz4)) (fun _ hk => hk.2) (.slice Aoz5 t116.length coz5)) (fun _ hk => hk.2) (.slice Aoz6 t119.length coz6)) (fun _ hk => hk.2) (.int .i64 t122)) (fun _ hk => hk.1.1.2))), (rT (h := by exact Kd.R_mono (Kd.R_far (p := ⟨gbz2, 7, none⟩) (Kd.R_far (p := ⟨gbz2, 6, none⟩) (Kd.R_far (p := ⟨gbz2, 5, none⟩) (Kd.R_far (p := ⟨gbz2, 4, none⟩) (Kd.R_far (p := ⟨gbz2, 3, none⟩) (Kd.R_far (p := ⟨gbz2, 2, none⟩) (Kd.R_far (p := ⟨gbz2, 1, none⟩) (Kd.R_far (p := ⟨gbz2, 0, none⟩) (Kd.R_far (p := ⟨gbz3, 7, none⟩) (Kd.R_far (p := ⟨gbz3, 6, none⟩) (Kd.R_types (Kd.R_types HOz6.out BKz3.out (by decide)) BKz2.out (by decide)) (fun _ hk => hk.1.2) (.slice Aoz6 t119.length coz6)) (fun _ hk => hk.1.2) (.int .i64 t122)) (fun _ hk => hk.2) (.slice Aoz1 t104.length coz1)) (fun _ hk => hk.2) (.slice Aoz2 t107.length coz2)) (fun _ hk => hk.2) (.slice Aoz3 t110.length coz3)) (fun _ hk => hk.2) (.int .i64 a0_3)) (fun _ hk => hk.2) (.slice Aoz4 t113.length coz4)) (fun _ hk => hk.2) (.slice Aoz5 t116.length coz5)) (fun _ hk => hk.2) (.slice Aoz6 t119.length coz6)) (fun _ hk => hk.2) (.int .i64 t122)) (fun _ hk => hk.1.1.2))), (hX HB.out)⟩
def laws_eqIntS.l0 : Nat → List Int → List Int → Int → Option (Bool)
 | 0, _, _, _ => none
 | k + 1, x0, x1, x5 => if x5 < (x0.length : Int) then (if 0 ≤ x5 then (if x5 < (x1.length : Int) then (if (rd x0 x5) = (rd x1 x5) then (laws_eqIntS.l0 k x0 x1 (wrap64 (x5 + 1))) else (some false)) else (none)) else (none)) else (some true)
def laws_eqIntS.f (k : Nat) (l0 : List Int) (l1 : List Int) : Option (Bool) := if (l0.length : Int) = (l1.length : Int) then (laws_eqIntS.l0 k l0 l1 0) else (some false)
theorem laws_eqIntS.calls (k : Nat) (A0 : Option Addr) (c0 : Nat) (l0 : List Int) (A1 : Option Addr) (c1 : Nat) (l1 : List Int) (r : Bool) (w : World) (hr0 : Kd.C (Kd.int .i64) w A0 l0.length l0) (hc0 : l0.length ≤ c0) (hr1 : Kd.C (Kd.int .i64) w A1 l1.length l1) (hc1 : l1.length ≤ c1) (h : laws_eqIntS.f k l0 l1 = some r) :
  Calls Tryz.prog 53 #[.slice A0 l0.length c0, .slice A1 l1.length c1] w fun e w' => e = .returned (.bool r) ∧ Drawn0 w w' := by
 have HR0 := aM hr0
 have HC0 := aM hc0
 clear hr0 hc0
 have HR1 := aM hr1
 have HC1 := aM hc1
 clear hr1 hc1
 have H := h
 unfold laws_eqIntS.f at H
 clear h
 go_enter Tryz.func53, Tryz.ntmps53
 by_cases c3 : (l0.length : Int) = (l1.length : Int)
 case neg =>
  rw [if_neg c3] at H
  obtain ⟨c3b0, c3b1⟩ := eqF c3
  have c3b2 : (l0.length == l1.length) = false := by first | simpa using c3 | (simp at c3 ⊢; omega)
  obtain rfl := sI H
  go_wp2
  repeat (go_quiet (fail); try go_wp2)
  go_ret
  exact ⟨by first | rfl | (simp; done) | (simp [*]; done), dX⟩
 rw [if_pos c3] at H
 obtain ⟨c3b0, c3b1⟩ := eqT c3
 have c3b2 : (l0.length == l1.length) = true := by first | simpa using c3 | (simp at c3 ⊢; omega)
 clear c3
 have H' := aM H
 clear H
 go_wp2
 repeat (go_quiet (fail); try go_wp2)
 go_loopg [5] k (fun kq v5 w' => ∃ (x5_1 : Int), v5 = .int .i64 x5_1 ∧ Aside0 (laws_eqIntS.l0 kq l0 l1 x5_1 = some r) ∧ Aside0 (kq ≤ k) ∧ Drawn0 w w')
 case atStart => exact ⟨(0), rS, H', ⟨Nat.le_refl _⟩, dX⟩
 case round =>
  clear H'
  try clear c3
  try clear c3b0
  try clear c3b1
  try clear c3b2
  obtain ⟨x5_1, rfl, HA, HKy1, ⟨my1, rfl⟩⟩ := hrel
  cases gk with
  | zero => exact absurd HA.out (by simp [laws_eqIntS.l0])
  | succ k1 =>
   have H := HA.out
   clear HA
   simp only [laws_eqIntS.l0] at H
   revert H; refine iN (fun c4b0 H => ?_) (fun c4b0 H => ?_)
   ·obtain rfl := sI H
    go_wp2
    repeat (go_quiet (fail); try go_wp2)
    go_ret
    exact ⟨by first | rfl | (simp; done) | (simp [*]; done), dX⟩
   replace H := ifQ H; obtain ⟨c5b0, H⟩ := H
   replace H := ifQ H; obtain ⟨c6b0, H⟩ := H
   revert H; refine eN (fun c7b0 c7b1 H => ?_) (fun c7b0 c7b1 H => ?_)
   ·obtain rfl := sI H
    have px1 : 0 ≤ (x5_1 : Int) := odA
    have qx1 : x5_1 < (l0.length : Int) := odA
    obtain ⟨adx1, ex1, hxx1⟩ := Kd.at_int HR0.out x5_1 px1 qx1
    cases ex1
    replace px1 := eq_true px1
    replace qx1 := eq_true qx1
    have px2 : 0 ≤ (x5_1 : Int) := odA
    have qx2 : x5_1 < (l1.length : Int) := odA
    obtain ⟨adx2, ex2, hxx2⟩ := Kd.at_int HR1.out x5_1 px2 qx2
    cases ex2
    replace px2 := eq_true px2
    replace qx2 := eq_true qx2
    go_wp2
    repeat (go_quiet (fail); try go_wp2)
    go_ret
    exact ⟨by first | rfl | (simp; done) | (simp [*]; done), dX⟩
   have H' := aM H
   clear H
   have px1 : 0 ≤ (x5_1 : Int) := odA
   have qx1 : x5_1 < (l0.length : Int) := odA
   obtain ⟨adx1, ex1, hxx1⟩ := Kd.at_int HR0.out x5_1 px1 qx1
   cases ex1
   replace px1 := eq_true px1
   replace qx1 := eq_true qx1
   have px2 : 0 ≤ (x5_1 : Int) := odA
   have qx2 : x5_1 < (l1.length : Int) := odA
   obtain ⟨adx2, ex2, hxx2⟩ := Kd.at_int HR1.out x5_1 px2 qx2
   cases ex2
   replace px2 := eq_true px2
   replace qx2 := eq_true qx2
   go_wp2
   repeat (go_quiet (fail); try go_wp2)
   go_roundg k1
   case measure => have := HKy1.out; omega
   case rel => exact ⟨(wrap64 (x5_1 + 1)), rS, H', ⟨by have := HKy1.out; omega⟩, dX⟩
def laws_eqRows.f (k : Nat) (l0_0 : List Int) (a0_1 : Int) (l1_0 : List Int) (a1_1 : Int) : Option (Bool) := (laws_eqIntS.f k l0_0 l1_0).bind fun t103 => (if t103 = true then (if a0_1 = a1_1 then (some true) else (some false)) else (some false))
theorem laws_eqRows.calls (k : Nat) (A0_0 : Option Addr) (c0_0 : Nat) (l0_0 : List Int) (a0_1 : Int) (A1_0 : Option Addr) (c1_0 : Nat) (l1_0 : List Int) (a1_1 : Int) (r : Bool) (w : World) (hr0_0 : Kd.C (Kd.int .i64) w A0_0 l0_0.length l0_0) (hc0_0 : l0_0.length ≤ c0_0) (hr1_0 : Kd.C (Kd.int .i64) w A1_0 l1_0.length l1_0) (hc1_0 : l1_0.length ≤ c1_0) (h : laws_eqRows.f k l0_0 a0_1 l1_0 a1_1 = some r) :
  Calls Tryz.prog 23 #[.agg #[.slice A0_0 l0_0.length c0_0, .int .i64 a0_1], .agg #[.slice A1_0 l1_0.length c1_0, .int .i64 a1_1]] w fun e w' => e = .returned (.bool r) ∧ Below w.heap.size w w' := by
 have hu41 := Tryz.underlying41
 have HR0_0 := aM hr0_0
 have HC0_0 := aM hc0_0
 clear hr0_0 hc0_0
 have HR1_0 := aM hr1_0
 have HC1_0 := aM hc1_0
 clear hr1_0 hc1_0
 have HB := aM (Below.refl w.heap.size w)
 have H := h
 unfold laws_eqRows.f at H
 clear h
 replace H := bE H; obtain ⟨t103, A3, H⟩ := H
 go_enter Tryz.func23, Tryz.ntmps23
 go_wp2_with (first | (refine boxE 2 #[.slice A0_0 l0_0.length c0_0, .int .i64 a0_1] 41 ?_; intro gbz1 hg wz1 hbox hb; have BKz1 := aM (hbox); have GWz1 := aG hg HB; have GEz1 := aG hg HB; replace HB := aS HB hb; clear hb hbox hg) | (refine boxE 3 #[.slice A1_0 l1_0.length c1_0, .int .i64 a1_1] 41 ?_; intro gbz2 hg wz2 hbox hb; have BKz2 := aM (hbox); have GWz2 := aG hg HB; have GEz2 := aG hg HB; have NBz1 := aL hg BKz1; have NBz2 := aR hg BKz1; replace BKz1 := aB BKz1 hb; replace HB := aS HB hb; clear hb hbox hg; have hnbz1 := NBz1.out; have hncz1 := NBz2.out; have hczz1 := cZ2 BKz1.out; have hczz3 := cZ2 BKz2.out; refine Stop.out ?_))
 refine ⟨?_⟩
 cases t103
 case false =>
  rw [if_neg nft] at H
  obtain rfl := sI H
  go_wp2_with (refine gD 53 9 Tryz.func53 (laws_eqIntS.calls _ _ _ _ _ _ _ _ _ (cC HR0_0.out HB.out) HC0_0.out (cC HR1_0.out HB.out) HC1_0.out A3.out) ?_; intro nd)
  go_ret
  exact ⟨rE, (hX HB.out)⟩
 rw [if_pos rfl] at H
 go_wp2_with (refine gD 53 9 Tryz.func53 (laws_eqIntS.calls _ _ _ _ _ _ _ _ _ (cC HR0_0.out HB.out) HC0_0.out (cC HR1_0.out HB.out) HC1_0.out A3.out) ?_; intro nd; refine Stop.out ?_)
 refine ⟨?_⟩
 revert H; refine eN (fun c5b0 c5b1 H => ?_) (fun c5b0 c5b1 H => ?_)
 ·obtain rfl := sI H
  exact fS
 exact fR
def laws_eqWord.f (a0_0 : Int) (a0_1 : Int) (a0_2 : Int) (a1_0 : Int) (a1_1 : Int) (a1_2 : Int) : Option (Bool) := if a0_0 = a1_0 then (if a0_1 = a1_1 then (if a0_2 = a1_2 then (some true) else (some false)) else (some false)) else (some false)
theorem laws_eqWord.calls (a0_0 : Int) (a0_1 : Int) (a0_2 : Int) (a1_0 : Int) (a1_1 : Int) (a1_2 : Int) (r : Bool) (w : World) (h : laws_eqWord.f a0_0 a0_1 a0_2 a1_0 a1_1 a1_2 = some r) :
  Calls Tryz.prog 186 #[.agg #[.int .i64 a0_0, .int .i64 a0_1, .int .i64 a0_2], .agg #[.int .i64 a1_0, .int .i64 a1_1, .int .i64 a1_2]] w fun e w' => e = .returned (.bool r) ∧ Below w.heap.size w w' := by
 have hu140 := Tryz.underlying140
 have HB := aM (Below.refl w.heap.size w)
 have H := h
 unfold laws_eqWord.f at H
 clear h
 go_enter Tryz.func186, Tryz.ntmps186
 go_wp2_with (first | (refine boxE 2 #[.int .i64 a0_0, .int .i64 a0_1, .int .i64 a0_2] 140 ?_; intro gbz1 hg wz1 hbox hb; have BKz1 := aM (hbox); have GWz1 := aG hg HB; have GEz1 := aG hg HB; replace HB := aS HB hb; clear hb hbox hg) | (refine boxE 3 #[.int .i64 a1_0, .int .i64 a1_1, .int .i64 a1_2] 140 ?_; intro gbz2 hg wz2 hbox hb; have BKz2 := aM (hbox); have GWz2 := aG hg HB; have GEz2 := aG hg HB; have NBz1 := aL hg BKz1; have NBz2 := aR hg BKz1; replace BKz1 := aB BKz1 hb; replace HB := aS HB hb; clear hb hbox hg; have hnbz1 := NBz1.out; have hncz1 := NBz2.out; have hczz1 := cZ3 BKz1.out; have hczz4 := cZ3 BKz2.out; refine Stop.out ?_))
 refine ⟨?_⟩
 revert H; refine eN (fun c3b0 c3b1 H => ?_) (fun c3b0 c3b1 H => ?_)
 ·obtain rfl := sI H
  exact fS
 revert H; refine eN (fun c4b0 c4b1 H => ?_) (fun c4b0 c4b1 H => ?_)
 ·obtain rfl := sI H
  exact fS
 revert H; refine eN (fun c5b0 c5b1 H => ?_) (fun c5b0 c5b1 H => ?_)
 ·obtain rfl := sI H
  exact fS
 exact fR
def laws_eqWordS.l0 : Nat → List (S140) → List (S140) → Int → Option (Bool)
 | 0, _, _, _ => none
 | k + 1, x0, x1, x5 => if x5 < (x0.length : Int) then (if 0 ≤ x5 then (if x5 < (x1.length : Int) then ((laws_eqWord.f ((rd_T140 x0 x5).f0) ((rd_T140 x0 x5).f1) ((rd_T140 x0 x5).f2) ((rd_T140 x1 x5).f0) ((rd_T140 x1 x5).f1) ((rd_T140 x1 x5).f2)).bind fun t103 => (if t103 = true then (laws_eqWordS.l0 k x0 x1 (wrap64 (x5 + 1))) else (some false))) else (none)) else (none)) else (some true)
def laws_eqWordS.f (k : Nat) (l0 : List (S140)) (l1 : List (S140)) : Option (Bool) := if (l0.length : Int) = (l1.length : Int) then (laws_eqWordS.l0 k l0 l1 0) else (some false)
def laws_eqWordS.T6 : Bool × List (List Nat × List Nat) := (true, [([], []), ([], []), ([0, 1], [0, 1]), ([2], [2]), ([], []), ([], []), ([4, 5], [4, 5]), ([6], [6]), ([3, 7], [3, 7]), ([8], [8])])
def laws_eqWordS.B6 : List Nat := [0, 0, 3, 7, 0, 0, 48, 112, 255, 511]
theorem laws_eqWordS.tab6 : rtab .any (opsOf Tryz.f109 6) = laws_eqWordS.T6 := by kernel_rfl
theorem laws_eqWordS.bits6 : waitsOk laws_eqWordS.T6.2 laws_eqWordS.B6 = true := by kernel_rfl
theorem laws_eqWordS.calls (k : Nat) (A0 : Option Addr) (c0 : Nat) (l0 : List (S140)) (A1 : Option Addr) (c1 : Nat) (l1 : List (S140)) (r : Bool) (w : World) (hr0 : Kd.C k140 w A0 l0.length l0) (hc0 : l0.length ≤ c0) (hr1 : Kd.C k140 w A1 l1.length l1) (hc1 : l1.length ≤ c1) (h : laws_eqWordS.f k l0 l1 = some r) :
  Calls Tryz.prog 109 #[.slice A0 l0.length c0, .slice A1 l1.length c1] w fun e w' => e = .returned (.bool r) ∧ Below w.heap.size w w' := by
 have hu140 := Tryz.underlying140
 have HR0 := aM hr0
 have HC0 := aM hc0
 clear hr0 hc0
 have HR1 := aM hr1
 have HC1 := aM hc1
 clear hr1 hc1
 have HB := aM (Below.refl w.heap.size w)
 have H := h
 unfold laws_eqWordS.f at H
 clear h
 go_enter Tryz.func109, Tryz.ntmps109
 by_cases c3 : (l0.length : Int) = (l1.length : Int)
 case neg =>
  rw [if_neg c3] at H
  obtain ⟨c3b0, c3b1⟩ := eqF c3
  have c3b2 : (l0.length == l1.length) = false := by first | simpa using c3 | (simp at c3 ⊢; omega)
  exact fR
 rw [if_pos c3] at H
 obtain ⟨c3b0, c3b1⟩ := eqT c3
 have c3b2 : (l0.length == l1.length) = true := by first | simpa using c3 | (simp at c3 ⊢; omega)
 clear c3
 have H' := aM H
 clear H
 go_wp2
 go_loopg [5] k (fun kq v5 w' => ∃ (x5_1 : Int), v5 = .int .i64 x5_1 ∧ Aside0 (laws_eqWordS.l0 kq l0 l1 x5_1 = some r) ∧ Aside0 (kq ≤ k) ∧ Aside0 (Below w.heap.size w w'))
 case atStart => exact ⟨(0), rS, H', ⟨Nat.le_refl _⟩, ⟨(hX HB.out)⟩⟩
 case round =>
  clear H'
  try clear c3
  try clear c3b0
  try clear c3b1
  try clear c3b2
  obtain ⟨x5_1, rfl, HA, HKy1, HB⟩ := hrel
  cases gk with
  | zero => exact absurd HA.out (by simp [laws_eqWordS.l0])
  | succ k1 =>
   have H := HA.out
   clear HA
   simp only [laws_eqWordS.l0] at H
   revert H; refine iN (fun c4b0 H => ?_) (fun c4b0 H => ?_)
   ·obtain rfl := sI H
    exact fS
   replace H := ifQ H; obtain ⟨c5b0, H⟩ := H
   replace H := ifQ H; obtain ⟨c6b0, H⟩ := H
   replace H := bE H; obtain ⟨t103, A7, H⟩ := H
   try go_wp2
   obtain ⟨adx1, ex1, px1, qx1, hxx1⟩ := at_T140c HR0 HB x5_1
   cases ex1
   obtain ⟨adx2, ex2, px2, qx2, hxx4⟩ := at_T140c HR1 HB x5_1
   cases ex2
   refine sR0 10 laws_eqWordS.tab6 laws_eqWordS.bits6 (fun HT_ HW_ hHeld => ?_)
   refine zA 0 ?_
   refine zA 1 ?_
   refine zA 2 ?_
   refine zA 4 ?_
   refine zA 5 ?_
   refine zA 6 ?_
   refine tA 3 ?_
   refine tA 7 ?_
   cases t103
   case false =>
    rw [if_neg nft] at H
    obtain rfl := sI H
    refine eB 8 Tryz.func186 (laws_eqWord.calls _ _ _ _ _ _ _ _ A7.out) (fun wx2 hb hHeld => ?_)
    replace HB := aS HB hb
    (try clear hb)
    refine zA 9 ?_
    refine dA ?_
    try go_wp2
    go_ret
    exact ⟨rE, (hX HB.out)⟩
   rw [if_pos rfl] at H
   have H' := aM H
   clear H
   refine eB 8 Tryz.func186 (laws_eqWord.calls _ _ _ _ _ _ _ _ A7.out) (fun wx2 hb hHeld => ?_)
   replace HB := aS HB hb
   (try clear hb)
   refine zA 9 ?_
   refine dA ?_
   try go_wp2
   go_roundg k1
   case measure => have := HKy1.out; omega
   case rel => exact ⟨(wrap64 (x5_1 + 1)), rS, H', ⟨by have := HKy1.out; omega⟩, ⟨(hX HB.out)⟩⟩
def laws_eqRes.f (k : Nat) (a0_0 : Int) (l0_1 : List Int) (a1_0 : Int) (l1_1 : List Int) : Option (Bool) := if a0_0 = a1_0 then ((laws_eqIntS.f k l0_1 l1_1).bind fun t103 => (if t103 = true then (some true) else (some false))) else (some false)
theorem laws_eqRes.calls (k : Nat) (a0_0 : Int) (A0_1 : Option Addr) (c0_1 : Nat) (l0_1 : List Int) (a1_0 : Int) (A1_1 : Option Addr) (c1_1 : Nat) (l1_1 : List Int) (r : Bool) (w : World) (hr0_1 : Kd.C (Kd.int .i64) w A0_1 l0_1.length l0_1) (hc0_1 : l0_1.length ≤ c0_1) (hr1_1 : Kd.C (Kd.int .i64) w A1_1 l1_1.length l1_1) (hc1_1 : l1_1.length ≤ c1_1) (h : laws_eqRes.f k a0_0 l0_1 a1_0 l1_1 = some r) :
  Calls Tryz.prog 190 #[.agg #[.int .i64 a0_0, .slice A0_1 l0_1.length c0_1], .agg #[.int .i64 a1_0, .slice A1_1 l1_1.length c1_1]] w fun e w' => e = .returned (.bool r) ∧ Below w.heap.size w w' := by
 have hu71 := Tryz.underlying71
 have HR0_1 := aM hr0_1
 have HC0_1 := aM hc0_1
 clear hr0_1 hc0_1
 have HR1_1 := aM hr1_1
 have HC1_1 := aM hc1_1
 clear hr1_1 hc1_1
 have HB := aM (Below.refl w.heap.size w)
 have H := h
 unfold laws_eqRes.f at H
 clear h
 go_enter Tryz.func190, Tryz.ntmps190
 go_wp2_with (first | (refine boxE 2 #[.int .i64 a0_0, .slice A0_1 l0_1.length c0_1] 71 ?_; intro gbz1 hg wz1 hbox hb; have BKz1 := aM (hbox); have GWz1 := aG hg HB; have GEz1 := aG hg HB; replace HB := aS HB hb; clear hb hbox hg) | (refine boxE 3 #[.int .i64 a1_0, .slice A1_1 l1_1.length c1_1] 71 ?_; intro gbz2 hg wz2 hbox hb; have BKz2 := aM (hbox); have GWz2 := aG hg HB; have GEz2 := aG hg HB; have NBz1 := aL hg BKz1; have NBz2 := aR hg BKz1; replace BKz1 := aB BKz1 hb; replace HB := aS HB hb; clear hb hbox hg; have hnbz1 := NBz1.out; have hncz1 := NBz2.out; have hczz1 := cZ2 BKz1.out; have hczz3 := cZ2 BKz2.out; refine Stop.out ?_))
 refine ⟨?_⟩
 revert H; refine eN (fun c3b0 c3b1 H => ?_) (fun c3b0 c3b1 H => ?_)
 ·obtain rfl := sI H
  exact fS
 replace H := bE H; obtain ⟨t103, A4, H⟩ := H
 cases t103
 case true =>
  rw [if_pos rfl] at H
  obtain rfl := sI H
  go_wp2_with (refine gD 53 14 Tryz.func53 (laws_eqIntS.calls _ _ _ _ _ _ _ _ _ (cC HR0_1.out HB.out) HC0_1.out (cC HR1_1.out HB.out) HC1_1.out A4.out) ?_; intro nd)
  go_ret
  exact ⟨rE, (hX HB.out)⟩
 rw [if_neg nft] at H
 obtain rfl := sI H
 go_wp2_with (refine gD 53 14 Tryz.func53 (laws_eqIntS.calls _ _ _ _ _ _ _ _ _ (cC HR0_1.out HB.out) HC0_1.out (cC HR1_1.out HB.out) HC1_1.out A4.out) ?_; intro nd)
 go_ret
 exact ⟨rE, (hX HB.out)⟩
def laws_eqEntry.f (a0_0 : Int) (a0_1 : Int) (a0_2 : Int) (a1_0 : Int) (a1_1 : Int) (a1_2 : Int) : Option (Bool) := if a0_0 = a1_0 then (if a0_1 = a1_1 then (if a0_2 = a1_2 then (some true) else (some false)) else (some false)) else (some false)
theorem laws_eqEntry.calls (a0_0 : Int) (a0_1 : Int) (a0_2 : Int) (a1_0 : Int) (a1_1 : Int) (a1_2 : Int) (r : Bool) (w : World) (h : laws_eqEntry.f a0_0 a0_1 a0_2 a1_0 a1_1 a1_2 = some r) :
  Calls Tryz.prog 220 #[.agg #[.int .i64 a0_0, .int .i64 a0_1, .int .i64 a0_2], .agg #[.int .i64 a1_0, .int .i64 a1_1, .int .i64 a1_2]] w fun e w' => e = .returned (.bool r) ∧ Below w.heap.size w w' := by
 have hu165 := Tryz.underlying165
 have HB := aM (Below.refl w.heap.size w)
 have H := h
 unfold laws_eqEntry.f at H
 clear h
 go_enter Tryz.func220, Tryz.ntmps220
 go_wp2_with (first | (refine boxE 2 #[.int .i64 a0_0, .int .i64 a0_1, .int .i64 a0_2] 165 ?_; intro gbz1 hg wz1 hbox hb; have BKz1 := aM (hbox); have GWz1 := aG hg HB; have GEz1 := aG hg HB; replace HB := aS HB hb; clear hb hbox hg) | (refine boxE 3 #[.int .i64 a1_0, .int .i64 a1_1, .int .i64 a1_2] 165 ?_; intro gbz2 hg wz2 hbox hb; have BKz2 := aM (hbox); have GWz2 := aG hg HB; have GEz2 := aG hg HB; have NBz1 := aL hg BKz1; have NBz2 := aR hg BKz1; replace BKz1 := aB BKz1 hb; replace HB := aS HB hb; clear hb hbox hg; have hnbz1 := NBz1.out; have hncz1 := NBz2.out; have hczz1 := cZ3 BKz1.out; have hczz4 := cZ3 BKz2.out; refine Stop.out ?_))
 refine ⟨?_⟩
 revert H; refine eN (fun c3b0 c3b1 H => ?_) (fun c3b0 c3b1 H => ?_)
 ·obtain rfl := sI H
  exact fS
 revert H; refine eN (fun c4b0 c4b1 H => ?_) (fun c4b0 c4b1 H => ?_)
 ·obtain rfl := sI H
  exact fS
 revert H; refine eN (fun c5b0 c5b1 H => ?_) (fun c5b0 c5b1 H => ?_)
 ·obtain rfl := sI H
  exact fS
 exact fR
def laws_eqEntryS.l0 : Nat → List (S165) → List (S165) → Int → Option (Bool)
 | 0, _, _, _ => none
 | k + 1, x0, x1, x5 => if x5 < (x0.length : Int) then (if 0 ≤ x5 then (if x5 < (x1.length : Int) then ((laws_eqEntry.f ((rd_T165 x0 x5).f0) ((rd_T165 x0 x5).f1) ((rd_T165 x0 x5).f2) ((rd_T165 x1 x5).f0) ((rd_T165 x1 x5).f1) ((rd_T165 x1 x5).f2)).bind fun t103 => (if t103 = true then (laws_eqEntryS.l0 k x0 x1 (wrap64 (x5 + 1))) else (some false))) else (none)) else (none)) else (some true)
def laws_eqEntryS.f (k : Nat) (l0 : List (S165)) (l1 : List (S165)) : Option (Bool) := if (l0.length : Int) = (l1.length : Int) then (laws_eqEntryS.l0 k l0 l1 0) else (some false)
def laws_eqEntryS.T6 : Bool × List (List Nat × List Nat) := (true, [([], []), ([], []), ([0, 1], [0, 1]), ([2], [2]), ([], []), ([], []), ([4, 5], [4, 5]), ([6], [6]), ([3, 7], [3, 7]), ([8], [8])])
def laws_eqEntryS.B6 : List Nat := [0, 0, 3, 7, 0, 0, 48, 112, 255, 511]
theorem laws_eqEntryS.tab6 : rtab .any (opsOf Tryz.f213 6) = laws_eqEntryS.T6 := by kernel_rfl
theorem laws_eqEntryS.bits6 : waitsOk laws_eqEntryS.T6.2 laws_eqEntryS.B6 = true := by kernel_rfl
theorem laws_eqEntryS.calls (k : Nat) (A0 : Option Addr) (c0 : Nat) (l0 : List (S165)) (A1 : Option Addr) (c1 : Nat) (l1 : List (S165)) (r : Bool) (w : World) (hr0 : Kd.C k165 w A0 l0.length l0) (hc0 : l0.length ≤ c0) (hr1 : Kd.C k165 w A1 l1.length l1) (hc1 : l1.length ≤ c1) (h : laws_eqEntryS.f k l0 l1 = some r) :
  Calls Tryz.prog 213 #[.slice A0 l0.length c0, .slice A1 l1.length c1] w fun e w' => e = .returned (.bool r) ∧ Below w.heap.size w w' := by
 have hu165 := Tryz.underlying165
 have HR0 := aM hr0
 have HC0 := aM hc0
 clear hr0 hc0
 have HR1 := aM hr1
 have HC1 := aM hc1
 clear hr1 hc1
 have HB := aM (Below.refl w.heap.size w)
 have H := h
 unfold laws_eqEntryS.f at H
 clear h
 go_enter Tryz.func213, Tryz.ntmps213
 by_cases c3 : (l0.length : Int) = (l1.length : Int)
 case neg =>
  rw [if_neg c3] at H
  obtain ⟨c3b0, c3b1⟩ := eqF c3
  have c3b2 : (l0.length == l1.length) = false := by first | simpa using c3 | (simp at c3 ⊢; omega)
  exact fR
 rw [if_pos c3] at H
 obtain ⟨c3b0, c3b1⟩ := eqT c3
 have c3b2 : (l0.length == l1.length) = true := by first | simpa using c3 | (simp at c3 ⊢; omega)
 clear c3
 have H' := aM H
 clear H
 go_wp2
 go_loopg [5] k (fun kq v5 w' => ∃ (x5_1 : Int), v5 = .int .i64 x5_1 ∧ Aside0 (laws_eqEntryS.l0 kq l0 l1 x5_1 = some r) ∧ Aside0 (kq ≤ k) ∧ Aside0 (Below w.heap.size w w'))
 case atStart => exact ⟨(0), rS, H', ⟨Nat.le_refl _⟩, ⟨(hX HB.out)⟩⟩
 case round =>
  clear H'
  try clear c3
  try clear c3b0
  try clear c3b1
  try clear c3b2
  obtain ⟨x5_1, rfl, HA, HKy1, HB⟩ := hrel
  cases gk with
  | zero => exact absurd HA.out (by simp [laws_eqEntryS.l0])
  | succ k1 =>
   have H := HA.out
   clear HA
   simp only [laws_eqEntryS.l0] at H
   revert H; refine iN (fun c4b0 H => ?_) (fun c4b0 H => ?_)
   ·obtain rfl := sI H
    exact fS
   replace H := ifQ H; obtain ⟨c5b0, H⟩ := H
   replace H := ifQ H; obtain ⟨c6b0, H⟩ := H
   replace H := bE H; obtain ⟨t103, A7, H⟩ := H
   try go_wp2
   obtain ⟨adx1, ex1, px1, qx1, hxx1⟩ := at_T165c HR0 HB x5_1
   cases ex1
   obtain ⟨adx2, ex2, px2, qx2, hxx4⟩ := at_T165c HR1 HB x5_1
   cases ex2
   refine sR0 10 laws_eqEntryS.tab6 laws_eqEntryS.bits6 (fun HT_ HW_ hHeld => ?_)
   refine zA 0 ?_
   refine zA 1 ?_
   refine zA 2 ?_
   refine zA 4 ?_
   refine zA 5 ?_
   refine zA 6 ?_
   refine tA 3 ?_
   refine tA 7 ?_
   cases t103
   case false =>
    rw [if_neg nft] at H
    obtain rfl := sI H
    refine eB 8 Tryz.func220 (laws_eqEntry.calls _ _ _ _ _ _ _ _ A7.out) (fun wx2 hb hHeld => ?_)
    replace HB := aS HB hb
    (try clear hb)
    refine zA 9 ?_
    refine dA ?_
    try go_wp2
    go_ret
    exact ⟨rE, (hX HB.out)⟩
   rw [if_pos rfl] at H
   have H' := aM H
   clear H
   refine eB 8 Tryz.func220 (laws_eqEntry.calls _ _ _ _ _ _ _ _ A7.out) (fun wx2 hb hHeld => ?_)
   replace HB := aS HB hb
   (try clear hb)
   refine zA 9 ?_
   refine dA ?_
   try go_wp2
   go_roundg k1
   case measure => have := HKy1.out; omega
   case rel => exact ⟨(wrap64 (x5_1 + 1)), rS, H', ⟨by have := HKy1.out; omega⟩, ⟨(hX HB.out)⟩⟩
def laws_eqDesc.f (k : Nat) (a0_0 : Int) (a0_1 : Int) (l0_2 : List (S165)) (a0_3 : Int) (l0_4 : List Int) (a1_0 : Int) (a1_1 : Int) (l1_2 : List (S165)) (a1_3 : Int) (l1_4 : List Int) : Option (Bool) := if a0_0 = a1_0 then (if a0_1 = a1_1 then ((laws_eqEntryS.f k l0_2 l1_2).bind fun t103 => (if t103 = true then ((laws_eqRes.f k a0_3 l0_4 a1_3 l1_4).bind fun t104 => (if t104 = true then (some true) else (some false))) else (some false))) else (some false)) else (some false)
theorem laws_eqDesc.calls (k : Nat) (a0_0 : Int) (a0_1 : Int) (A0_2 : Option Addr) (c0_2 : Nat) (l0_2 : List (S165)) (a0_3 : Int) (A0_4 : Option Addr) (c0_4 : Nat) (l0_4 : List Int) (a1_0 : Int) (a1_1 : Int) (A1_2 : Option Addr) (c1_2 : Nat) (l1_2 : List (S165)) (a1_3 : Int) (A1_4 : Option Addr) (c1_4 : Nat) (l1_4 : List Int) (r : Bool) (w : World) (hr0_2 : Kd.C k165 w A0_2 l0_2.length l0_2) (hc0_2 : l0_2.length ≤ c0_2) (hr0_4 : Kd.C (Kd.int .i64) w A0_4 l0_4.length l0_4) (hc0_4 : l0_4.length ≤ c0_4) (hr1_2 : Kd.C k165 w A1_2 l1_2.length l1_2) (hc1_2 : l1_2.length ≤ c1_2) (hr1_4 : Kd.C (Kd.int .i64) w A1_4 l1_4.length l1_4) (hc1_4 : l1_4.length ≤ c1_4) (h : laws_eqDesc.f k a0_0 a0_1 l0_2 a0_3 l0_4 a1_0 a1_1 l1_2 a1_3 l1_4 = some r) :
  Calls Tryz.prog 187 #[.agg #[.int .i64 a0_0, .int .i64 a0_1, .slice A0_2 l0_2.length c0_2, .int .i64 a0_3, .slice A0_4 l0_4.length c0_4], .agg #[.int .i64 a1_0, .int .i64 a1_1, .slice A1_2 l1_2.length c1_2, .int .i64 a1_3, .slice A1_4 l1_4.length c1_4]] w fun e w' => e = .returned (.bool r) ∧ Below w.heap.size w w' := by
 have hu162 := Tryz.underlying162
 have hu71 := Tryz.underlying71
 have HR0_2 := aM hr0_2
 have HC0_2 := aM hc0_2
 clear hr0_2 hc0_2
 have HR0_4 := aM hr0_4
 have HC0_4 := aM hc0_4
 clear hr0_4 hc0_4
 have HR1_2 := aM hr1_2
 have HC1_2 := aM hc1_2
 clear hr1_2 hc1_2
 have HR1_4 := aM hr1_4
 have HC1_4 := aM hc1_4
 clear hr1_4 hc1_4
 have HB := aM (Below.refl w.heap.size w)
 have H := h
 unfold laws_eqDesc.f at H
 clear h
 go_enter Tryz.func187, Tryz.ntmps187
 go_wp2_with (first | (refine boxE 2 #[.int .i64 a0_0, .int .i64 a0_1, .slice A0_2 l0_2.length c0_2, .int .i64 a0_3, .slice A0_4 l0_4.length c0_4] 162 ?_; intro gbz1 hg wz1 hbox hb; have BKz1 := aM (hbox); have GWz1 := aG hg HB; have GEz1 := aG hg HB; replace HB := aS HB hb; clear hb hbox hg) | (refine boxE 3 #[.int .i64 a1_0, .int .i64 a1_1, .slice A1_2 l1_2.length c1_2, .int .i64 a1_3, .slice A1_4 l1_4.length c1_4] 162 ?_; intro gbz2 hg wz2 hbox hb; have BKz2 := aM (hbox); have GWz2 := aG hg HB; have GEz2 := aG hg HB; have NBz1 := aL hg BKz1; have NBz2 := aR hg BKz1; replace BKz1 := aB BKz1 hb; replace HB := aS HB hb; clear hb hbox hg; have hnbz1 := NBz1.out; have hncz1 := NBz2.out; have hczz1 := cZ5 BKz1.out; have hczz6 := cZ5 BKz2.out; refine Stop.out ?_))
 refine ⟨?_⟩
 revert H; refine eN (fun c3b0 c3b1 H => ?_) (fun c3b0 c3b1 H => ?_)
 ·obtain rfl := sI H
  exact fS
 revert H; refine eN (fun c4b0 c4b1 H => ?_) (fun c4b0 c4b1 H => ?_)
 ·obtain rfl := sI H
  exact fS
 replace H := bE H; obtain ⟨t103, A5, H⟩ := H
 cases t103
 case false =>
  rw [if_neg nft] at H
  obtain rfl := sI H
  go_wp2_with (refine gB 213 19 Tryz.func213 (laws_eqEntryS.calls _ _ _ _ _ _ _ _ _ (cC HR0_2.out HB.out) HC0_2.out (cC HR1_2.out HB.out) HC1_2.out A5.out) ?_; intro wz3 hb; replace BKz1 := aB BKz1 hb; replace BKz2 := aB BKz2 hb; replace HB := aS HB hb; clear hb)
  go_ret
  exact ⟨rE, (hX HB.out)⟩
 rw [if_pos rfl] at H
 replace H := bE H; obtain ⟨t104, A7, H⟩ := H
 go_wp2_with (refine gB 213 19 Tryz.func213 (laws_eqEntryS.calls _ _ _ _ _ _ _ _ _ (cC HR0_2.out HB.out) HC0_2.out (cC HR1_2.out HB.out) HC1_2.out A5.out) ?_; intro wz3 hb; replace BKz1 := aB BKz1 hb; replace BKz2 := aB BKz2 hb; replace HB := aS HB hb; clear hb; have hczz11 := cZ5 BKz1.out; have hczz16 := cZ5 BKz2.out; refine Stop.out ?_)
 refine ⟨?_⟩
 cases t104
 case true =>
  rw [if_pos rfl] at H
  obtain rfl := sI H
  go_wp2_with (refine gB 190 25 Tryz.func190 (laws_eqRes.calls _ _ _ _ _ _ _ _ _ _ _ (cC HR0_4.out HB.out) HC0_4.out (cC HR1_4.out HB.out) HC1_4.out A7.out) ?_; intro wz4 hb; replace BKz1 := aB BKz1 hb; replace BKz2 := aB BKz2 hb; replace HB := aS HB hb; clear hb)
  go_ret
  exact ⟨rE, (hX HB.out)⟩
 rw [if_neg nft] at H
 obtain rfl := sI H
 go_wp2_with (refine gB 190 25 Tryz.func190 (laws_eqRes.calls _ _ _ _ _ _ _ _ _ _ _ (cC HR0_4.out HB.out) HC0_4.out (cC HR1_4.out HB.out) HC1_4.out A7.out) ?_; intro wz4 hb; replace BKz1 := aB BKz1 hb; replace BKz2 := aB BKz2 hb; replace HB := aS HB hb; clear hb)
 go_ret
 exact ⟨rE, (hX HB.out)⟩
def laws_eqDescS.l0 : Nat → List (S162) → List (S162) → Int → Option (Bool)
 | 0, _, _, _ => none
 | k + 1, x0, x1, x5 => if x5 < (x0.length : Int) then (if 0 ≤ x5 then (if x5 < (x1.length : Int) then ((laws_eqDesc.f k ((rd_T162 x0 x5).f0) ((rd_T162 x0 x5).f1) ((rd_T162 x0 x5).f2) ((rd_T162 x0 x5).f3.f0) ((rd_T162 x0 x5).f3.f1) ((rd_T162 x1 x5).f0) ((rd_T162 x1 x5).f1) ((rd_T162 x1 x5).f2) ((rd_T162 x1 x5).f3.f0) ((rd_T162 x1 x5).f3.f1)).bind fun t103 => (if t103 = true then (laws_eqDescS.l0 k x0 x1 (wrap64 (x5 + 1))) else (some false))) else (none)) else (none)) else (some true)
def laws_eqDescS.f (k : Nat) (l0 : List (S162)) (l1 : List (S162)) : Option (Bool) := if (l0.length : Int) = (l1.length : Int) then (laws_eqDescS.l0 k l0 l1 0) else (some false)
def laws_eqDescS.T6 : Bool × List (List Nat × List Nat) := (true, [([], []), ([], []), ([0, 1], [0, 1]), ([2], [2]), ([], []), ([], []), ([4, 5], [4, 5]), ([6], [6]), ([3, 7], [3, 7]), ([8], [8])])
def laws_eqDescS.B6 : List Nat := [0, 0, 3, 7, 0, 0, 48, 112, 255, 511]
theorem laws_eqDescS.tab6 : rtab .any (opsOf Tryz.f110 6) = laws_eqDescS.T6 := by kernel_rfl
theorem laws_eqDescS.bits6 : waitsOk laws_eqDescS.T6.2 laws_eqDescS.B6 = true := by kernel_rfl
theorem laws_eqDescS.calls (k : Nat) (A0 : Option Addr) (c0 : Nat) (l0 : List (S162)) (A1 : Option Addr) (c1 : Nat) (l1 : List (S162)) (r : Bool) (w : World) (hr0 : Kd.C k162 w A0 l0.length l0) (hc0 : l0.length ≤ c0) (hr1 : Kd.C k162 w A1 l1.length l1) (hc1 : l1.length ≤ c1) (h : laws_eqDescS.f k l0 l1 = some r) :
  Calls Tryz.prog 110 #[.slice A0 l0.length c0, .slice A1 l1.length c1] w fun e w' => e = .returned (.bool r) ∧ Below w.heap.size w w' := by
 have hu162 := Tryz.underlying162
 have HR0 := aM hr0
 have HC0 := aM hc0
 clear hr0 hc0
 have HR1 := aM hr1
 have HC1 := aM hc1
 clear hr1 hc1
 have HB := aM (Below.refl w.heap.size w)
 have H := h
 unfold laws_eqDescS.f at H
 clear h
 go_enter Tryz.func110, Tryz.ntmps110
 by_cases c3 : (l0.length : Int) = (l1.length : Int)
 case neg =>
  rw [if_neg c3] at H
  obtain ⟨c3b0, c3b1⟩ := eqF c3
  have c3b2 : (l0.length == l1.length) = false := by first | simpa using c3 | (simp at c3 ⊢; omega)
  exact fR
 rw [if_pos c3] at H
 obtain ⟨c3b0, c3b1⟩ := eqT c3
 have c3b2 : (l0.length == l1.length) = true := by first | simpa using c3 | (simp at c3 ⊢; omega)
 clear c3
 have H' := aM H
 clear H
 go_wp2
 go_loopg [5] k (fun kq v5 w' => ∃ (x5_1 : Int), v5 = .int .i64 x5_1 ∧ Aside0 (laws_eqDescS.l0 kq l0 l1 x5_1 = some r) ∧ Aside0 (kq ≤ k) ∧ Aside0 (Below w.heap.size w w'))
 case atStart => exact ⟨(0), rS, H', ⟨Nat.le_refl _⟩, ⟨(hX HB.out)⟩⟩
 case round =>
  clear H'
  try clear c3
  try clear c3b0
  try clear c3b1
  try clear c3b2
  obtain ⟨x5_1, rfl, HA, HKy1, HB⟩ := hrel
  cases gk with
  | zero => exact absurd HA.out (by simp [laws_eqDescS.l0])
  | succ k1 =>
   have H := HA.out
   clear HA
   simp only [laws_eqDescS.l0] at H
   revert H; refine iN (fun c4b0 H => ?_) (fun c4b0 H => ?_)
   ·obtain rfl := sI H
    exact fS
   replace H := ifQ H; obtain ⟨c5b0, H⟩ := H
   replace H := ifQ H; obtain ⟨c6b0, H⟩ := H
   replace H := bE H; obtain ⟨t103, A7, H⟩ := H
   try go_wp2
   obtain ⟨adx1, Ax1, cx1, Ax2, cx2, ex1, px1, qx1, hxx1, HCx1, HRx1, HCx2, HRx2⟩ := at_T162c HR0 HB x5_1
   cases ex1
   obtain ⟨adx2, Ax3, cx3, Ax4, cx4, ex2, px2, qx2, hxx6, HCx3, HRx3, HCx4, HRx4⟩ := at_T162c HR1 HB x5_1
   cases ex2
   refine sR0 10 laws_eqDescS.tab6 laws_eqDescS.bits6 (fun HT_ HW_ hHeld => ?_)
   refine zA 0 ?_
   refine zA 1 ?_
   refine zA 2 ?_
   refine zA 4 ?_
   refine zA 5 ?_
   refine zA 6 ?_
   refine tA 3 ?_
   refine tA 7 ?_
   cases t103
   case false =>
    rw [if_neg nft] at H
    obtain rfl := sI H
    refine eB 8 Tryz.func187 (laws_eqDesc.calls k1 ((rd_T162 l0 x5_1).f0) ((rd_T162 l0 x5_1).f1) _ _ ((rd_T162 l0 x5_1).f2) ((rd_T162 l0 x5_1).f3.f0) _ _ ((rd_T162 l0 x5_1).f3.f1) ((rd_T162 l1 x5_1).f0) ((rd_T162 l1 x5_1).f1) _ _ ((rd_T162 l1 x5_1).f2) ((rd_T162 l1 x5_1).f3.f0) _ _ ((rd_T162 l1 x5_1).f3.f1) false _ (cC HRx1.out HB.out) HCx1.out (cC HRx2.out HB.out) HCx2.out (cC HRx3.out HB.out) HCx3.out (cC HRx4.out HB.out) HCx4.out A7.out) (fun wx2 hb hHeld => ?_)
    replace HB := aS HB hb
    (try clear hb)
    refine zA 9 ?_
    refine dA ?_
    try go_wp2
    go_ret
    exact ⟨rE, (hX HB.out)⟩
   rw [if_pos rfl] at H
   have H' := aM H
   clear H
   refine eB 8 Tryz.func187 (laws_eqDesc.calls k1 ((rd_T162 l0 x5_1).f0) ((rd_T162 l0 x5_1).f1) _ _ ((rd_T162 l0 x5_1).f2) ((rd_T162 l0 x5_1).f3.f0) _ _ ((rd_T162 l0 x5_1).f3.f1) ((rd_T162 l1 x5_1).f0) ((rd_T162 l1 x5_1).f1) _ _ ((rd_T162 l1 x5_1).f2) ((rd_T162 l1 x5_1).f3.f0) _ _ ((rd_T162 l1 x5_1).f3.f1) true _ (cC HRx1.out HB.out) HCx1.out (cC HRx2.out HB.out) HCx2.out (cC HRx3.out HB.out) HCx3.out (cC HRx4.out HB.out) HCx4.out A7.out) (fun wx2 hb hHeld => ?_)
   replace HB := aS HB hb
   (try clear hb)
   refine zA 9 ?_
   refine dA ?_
   try go_wp2
   go_roundg k1
   case measure => have := HKy1.out; omega
   case rel => exact ⟨(wrap64 (x5_1 + 1)), rS, H', ⟨by have := HKy1.out; omega⟩, ⟨(hX HB.out)⟩⟩
end Go.Proofs.YtmljebgideecjaaGreat.P2

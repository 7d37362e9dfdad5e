/- A part of the proof of the law FnExactJudgeSo: texts of this seat, merged (words, printed functions of the program, plain lemmas). Conditions: none of its own. -/
import Derived.OpenShut
import Derived.DataElems
import Derived.DataReads
import Derived.Test.YtmljebgideecjaaGreatP2kFnExactJudgeSo1
import Derived.Test.YtmljebgideecjaaGreatP2kFnExactJudgeSo2
import Derived.Test.YtmljebgideecjaaGreatP2kFnExactJudgeSo4
import Derived.Test.YtmljebgideecjaaGreatP2kFnExactJudgeSo5
import Derived.Test.YtmljebgideecjaaGreatP2kFnExactJudgeSo6
import Derived.Test.YtmljebgideecjaaGreatP2kFnExactJudgeSo7
import Derived.Test.YtmljebgideecjaaGreatP2kFnExactJudgeSo10
import Derived.Test.YtmljebgideecjaaGreatP2kFnExactJudgeSo12
import Derived.Test.YtmljebgideecjaaGreatP2kFnExactJudgeSo19
import Derived.Test.YtmljebgideecjaaGreatP2kFnExactJudgeSo24
import Derived.Test.YtmljebgideecjaaGreatP2kFnExactJudgeSo26
set_option linter.unusedSimpArgs false
set_option linter.unusedVariables false
set_option maxHeartbeats 8000000
set_option maxRecDepth 100000
namespace Go.Proofs.YtmljebgideecjaaGreat.P2
open Go.Proofs.YtmljebgideecjaaGreatZ Go.RowKit Go.Proofs.YtmljebgideecjaaGreatW.PrintWords Go.Proofs.YtmljebgideecjaaGreatW.PrintLast Go.Proofs.YtmljebgideecjaaGreatW.PrintMore
attribute [local go_sem] max2_int min2_int max_two min_two max_three min_three max_four min_four   -- for this text's walks alone
def impl_Replay.l0 : Nat → Bool → List Int → Int → Int → List (S140) → List (S162) → List (S97) → Int → List (S73) → List Int → List Int → Int → List Int → Int → Option (List Int × Int × Bool)
 | 0, _, _, _, _, _, _, _, _, _, _, _, _, _, _ => none
 | k + 1, x5, x17, x18, x19, x102000, x102001, x102002, x102003, x102004, x102005, x102006, x102007, x109000, x109001 => if x19 < x18 then (if 0 ≤ x19 then (if x19 < (x17.length : Int) then (if 0 ≤ (rd x17 x19) then (if (rd x17 x19) < (x102004.length : Int) then (if x5 = true then ((impl_Allowed.f k x109000 x109001 ((rd_T73 x102004 (rd x17 x19)).f1.f0) ((rd_T73 x102004 (rd x17 x19)).f1.f1) ((rd_T73 x102004 (rd x17 x19)).f1.f2) ((rd_T73 x102004 (rd x17 x19)).f5.f0) ((rd_T73 x102004 (rd x17 x19)).f5.f1)).bind fun t112 => ((impl_After.f k x109000 x109001 ((rd_T73 x102004 (rd x17 x19)).f1.f0) ((rd_T73 x102004 (rd x17 x19)).f1.f1) ((rd_T73 x102004 (rd x17 x19)).f1.f2) ((rd_T73 x102004 (rd x17 x19)).f5.f0) ((rd_T73 x102004 (rd x17 x19)).f5.f1)).bind fun bt113 => (impl_Replay.l0 k t112 x17 x18 (wrap64 (x19 + 1)) x102000 x102001 x102002 x102003 x102004 x102005 x102006 x102007 bt113.1 bt113.2))) else ((impl_After.f k x109000 x109001 ((rd_T73 x102004 (rd x17 x19)).f1.f0) ((rd_T73 x102004 (rd x17 x19)).f1.f1) ((rd_T73 x102004 (rd x17 x19)).f1.f2) ((rd_T73 x102004 (rd x17 x19)).f5.f0) ((rd_T73 x102004 (rd x17 x19)).f5.f1)).bind fun bt117 => (impl_Replay.l0 k false x17 x18 (wrap64 (x19 + 1)) x102000 x102001 x102002 x102003 x102004 x102005 x102006 x102007 bt117.1 bt117.2))) else (none)) else (none)) else (none)) else (none)) else (some (x109000, x109001, x5))
def impl_Replay.f (k : Nat) (l0_0 : List (S140)) (l0_1 : List (S162)) (l0_2 : List (S97)) (a0_3 : Int) (l0_4 : List (S73)) (l0_5 : List Int) (l0_6 : List Int) (a0_7 : Int) : Option (List Int × Int × Bool) := (impl_MachineOk.f k l0_0 l0_1 l0_2 a0_3 l0_4 l0_5 l0_6 a0_7).bind fun t103 => (if t103 = true then ((impl_copyRows.f l0_6 a0_7).bind fun bt104 => (impl_Replay.l0 k true l0_5 (l0_5.length : Int) 0 l0_0 l0_1 l0_2 a0_3 l0_4 l0_5 l0_6 a0_7 bt104.1 bt104.2)) else (some (([] : List Int), 0, false)))
theorem impl_Replay.calls (k : Nat) (A0_0 : Option Addr) (c0_0 : Nat) (l0_0 : List (S140)) (A0_1 : Option Addr) (c0_1 : Nat) (l0_1 : List (S162)) (A0_2 : Option Addr) (c0_2 : Nat) (l0_2 : List (S97)) (a0_3 : Int) (A0_4 : Option Addr) (c0_4 : Nat) (l0_4 : List (S73)) (A0_5 : Option Addr) (c0_5 : Nat) (l0_5 : List Int) (A0_6 : Option Addr) (c0_6 : Nat) (l0_6 : List Int) (a0_7 : Int) (r1 : List Int) (r2 : Int) (r3 : Bool) (w : World) (hr0_0 : Kd.C k140 w A0_0 l0_0.length l0_0) (hc0_0 : l0_0.length ≤ c0_0) (hr0_1 : Kd.C k162 w A0_1 l0_1.length l0_1) (hc0_1 : l0_1.length ≤ c0_1) (hr0_2 : Kd.C k97 w A0_2 l0_2.length l0_2) (hc0_2 : l0_2.length ≤ c0_2) (hr0_4 : Kd.C k73 w A0_4 l0_4.length l0_4) (hc0_4 : l0_4.length ≤ c0_4) (hr0_5 : Kd.C (Kd.int .i64) w A0_5 l0_5.length l0_5) (hc0_5 : l0_5.length ≤ c0_5) (hr0_6 : Kd.C (Kd.int .i64) w A0_6 l0_6.length l0_6) (hc0_6 : l0_6.length ≤ c0_6) (h : impl_Replay.f k l0_0 l0_1 l0_2 a0_3 l0_4 l0_5 l0_6 a0_7 = some (r1, r2, r3)) :
  Calls Tryz.prog 30 #[.agg #[.slice A0_0 l0_0.length c0_0, .slice A0_1 l0_1.length c0_1, .slice A0_2 l0_2.length c0_2, .int .i64 a0_3, .slice A0_4 l0_4.length c0_4, .slice A0_5 l0_5.length c0_5, .slice A0_6 l0_6.length c0_6, .int .i64 a0_7]] w fun e w' => ∃ v0_ : Value, e = .returned (.tuple #[.agg #[v0_, .int .i64 r2], .bool r3]) ∧ Kd.R (Kd.int .i64) 3 w' w.heap.size (fun _ => True) v0_ r1 ∧ Below w.heap.size w w' := by
 have hu43 := Tryz.underlying43
 have hu41 := Tryz.underlying41
 have hu73 := Tryz.underlying73
 have hu69 := Tryz.underlying69
 have hu71 := Tryz.underlying71
 have HR0_0 := aM hr0_0
 have HC0_0 := aM hc0_0
 clear hr0_0 hc0_0
 have HR0_1 := aM hr0_1
 have HC0_1 := aM hc0_1
 clear hr0_1 hc0_1
 have HR0_2 := aM hr0_2
 have HC0_2 := aM hc0_2
 clear hr0_2 hc0_2
 have HR0_4 := aM hr0_4
 have HC0_4 := aM hc0_4
 clear hr0_4 hc0_4
 have HR0_5 := aM hr0_5
 have HC0_5 := aM hc0_5
 clear hr0_5 hc0_5
 have HR0_6 := aM hr0_6
 have HC0_6 := aM hc0_6
 clear hr0_6 hc0_6
 have HB := aM (Below.refl w.heap.size w)
 have H := h
 unfold impl_Replay.f at H
 clear h
 replace H := bE H; obtain ⟨t103, A2, H⟩ := H
 go_enter Tryz.func30, Tryz.ntmps30
 go_wp2_with (first | (refine boxE 1 #[.slice A0_0 l0_0.length c0_0, .slice A0_1 l0_1.length c0_1, .slice A0_2 l0_2.length c0_2, .int .i64 a0_3, .slice A0_4 l0_4.length c0_4, .slice A0_5 l0_5.length c0_5, .slice A0_6 l0_6.length c0_6, .int .i64 a0_7] 43 ?_; intro gbz1 hg wz1 hbox hb; have BKz1 := aM (hbox); have GWz1 := aG hg HB; have GEz1 := aG hg HB; replace HB := aS HB hb; clear hb hbox hg) | (refine boxE 2 #[.slice none 0 0, .int .i64 0] 41 ?_; intro gbz2 hg wz2 hbox hb; have BKz2 := aM (hbox); have GWz2 := aG hg HB; have GEz2 := aG hg HB; have NBz1 := aL hg BKz1; have NBz2 := aR hg BKz1; replace BKz1 := aB BKz1 hb; replace HB := aS HB hb; clear hb hbox hg; have hnbz1 := NBz1.out; have hncz1 := NBz2.out; have hczz1 := cZ8 BKz1.out; refine Stop.out ?_))
 refine ⟨?_⟩
 cases t103
 case false =>
  rw [if_neg nft] at H
  simp only [Option.some.injEq, Prod.mk.injEq] at H
  obtain ⟨rfl, rfl, rfl⟩ := H
  go_wp2_with (refine gB 48 10 Tryz.func48 (impl_MachineOk.calls _ _ _ _ _ _ _ _ _ _ _ _ _ _ _ _ _ _ _ _ _ _ _ (cC HR0_0.out HB.out) HC0_0.out (cC HR0_1.out HB.out) HC0_1.out (cC HR0_2.out HB.out) HC0_2.out (cC HR0_4.out HB.out) HC0_4.out (cC HR0_5.out HB.out) HC0_5.out (cC HR0_6.out HB.out) HC0_6.out A2.out) ?_; intro wz3 hb; replace BKz1 := aB BKz1 hb; replace BKz2 := aB BKz2 hb; replace HB := aS HB hb; clear hb; have hczz9 := cZ2 BKz2.out)
  refine bodyPost_ret (results_ct rfl _ _ gbz2 41 #[.slice none 0 0, .int .i64 0] (0, 0) _ rfl (bP BKz2.out) Tryz.underlying41 rfl (by kernel_rfl)) rfl ?_
  exact ⟨(Value.slice none 0 0), rE, (by first | exact Kd.R_nil _ _ _ _ _ | exact Kd.S_nil _ _ _ _ _ | exact Kd.V_nil _ _ _ _ _ | exact Kd.N_nil _ _ _ _ _ | exact Kd.Q_nil _ _ _ _ _), (hX HB.out)⟩
 rw [if_pos rfl] at H
 replace H := bE H; obtain ⟨⟨t104, t107⟩, A4, H⟩ := H
 try dsimp only at H
 have H' := aM H
 clear H
 go_wp2_with (first | (refine gB 48 10 Tryz.func48 (impl_MachineOk.calls _ _ _ _ _ _ _ _ _ _ _ _ _ _ _ _ _ _ _ _ _ _ _ (cC HR0_0.out HB.out) HC0_0.out (cC HR0_1.out HB.out) HC0_1.out (cC HR0_2.out HB.out) HC0_2.out (cC HR0_4.out HB.out) HC0_4.out (cC HR0_5.out HB.out) HC0_5.out (cC HR0_6.out HB.out) HC0_6.out A2.out) ?_; intro wz3 hb; replace BKz1 := aB BKz1 hb; replace BKz2 := aB BKz2 hb; replace HB := aS HB hb; clear hb; have hczz9 := cZ8 BKz1.out) | (refine goesM 68 15 Tryz.func68 #[.agg #[.slice A0_6 l0_6.length c0_6, .int .i64 a0_7]] ?_; refine (impl_copyRows.calls _ _ _ _ _ _ _ (cC HR0_6.out HB.out) HC0_6.out A4.out).mono ?_; rintro e wz4 ⟨vz1, rfl, hoz1, hb⟩; refine ⟨_, rfl, ?_⟩; have HOz1 := aM (Kd.R_lower hoz1 (below_size (hX HB.out))); replace BKz1 := aB BKz1 hb; replace BKz2 := aB BKz2 hb; replace HB := aS HB hb; clear hb hoz1) | (refine boxE 4 #[.slice none 0 0, .int .i64 0] 41 ?_; intro gbz3 hg wz5 hbox hb; have BKz3 := aM (hbox); have GWz3 := aG hg HB; have GEz3 := aG hg HB; have NBz3 := aL hg BKz1; have NBz4 := aR hg BKz1; have NBz5 := aL hg BKz2; have NBz6 := aR hg BKz2; replace HOz1 := aQ HOz1 hb; replace BKz1 := aB BKz1 hb; replace BKz2 := aB BKz2 hb; replace HB := aS HB hb; clear hb hbox hg; obtain ⟨Aoz1, coz1, eoz1⟩ := Kd.R_slice HOz1.out; subst eoz1; have hnbz2 := NBz4.out; have hncz2 := NBz3.out; have hnbz3 := NBz6.out; have hncz3 := NBz5.out; have hczz17 := cZ2 BKz3.out; have hczz19 := cZ8 BKz1.out))
 go_loopg [5, 19] k (fun kq v5 v19 w' => ∃ (x5_1 : Bool) (x19_1 : Int) (x109000_1 : List Int) (x109001_1 : Int) (u109000 : Value), v5 = .bool x5_1 ∧ v19 = .int .i64 x19_1 ∧ Aside0 (impl_Replay.l0 kq x5_1 l0_5 (l0_5.length : Int) x19_1 l0_0 l0_1 l0_2 a0_3 l0_4 l0_5 l0_6 a0_7 x109000_1 x109001_1 = some (r1, r2, r3)) ∧ Aside0 (kq ≤ k) ∧ Aside0 (Kd.R (Kd.int .i64) 3 w' w.heap.size (fun _ => True) u109000 x109000_1) ∧ Aside0 (w'.heap[gbz1]? = some (.cells #[(.slice A0_0 l0_0.length c0_0), (.slice A0_1 l0_1.length c0_1), (.slice A0_2 l0_2.length c0_2), .int .i64 a0_3, (.slice A0_4 l0_4.length c0_4), (.slice A0_5 l0_5.length c0_5), (.slice A0_6 l0_6.length c0_6), .int .i64 a0_7] 43 (0, 0))) ∧ Aside0 (w'.heap[gbz2]? = some (.cells #[(.slice none 0 0), .int .i64 0] 41 (0, 0))) ∧ Aside0 (w'.heap[gbz3]? = some (.cells #[u109000, .int .i64 x109001_1] 41 (0, 0))) ∧ Aside0 (Below w.heap.size w w'))
 case atStart => exact ⟨(true), (0), (t104), (t107), (.slice Aoz1 t104.length coz1), rS, rS, H', ⟨Nat.le_refl _⟩, ⟨(rT (h := by exact Kd.R_mono (Kd.R_far (p := ⟨gbz3, 1, none⟩) (Kd.R_far (p := ⟨gbz3, 0, none⟩) (Kd.R_types HOz1.out BKz3.out (by decide)) (fun _ hk => hk.2) (.slice Aoz1 t104.length coz1)) (fun _ hk => hk.2) (.int .i64 t107)) (fun _ hk => trivial)))⟩, ⟨(bF BKz1.out)⟩, ⟨(bF BKz2.out)⟩, ⟨(bP BKz3.out)⟩, ⟨(hX HB.out)⟩⟩
 case round =>
  clear H'
  try clear hczz9
  try clear hczz17
  try clear hczz19
  try clear hczz1
  obtain ⟨x5_1, x19_1, x109000_1, x109001_1, u109000, rfl, rfl, HA, HKy1, HO_y1, BKz1, BKz2, BKz3, HB⟩ := hrel
  cases gk with
  | zero => exact absurd HA.out (by simp [impl_Replay.l0])
  | succ k1 =>
   have H := HA.out
   clear HA
   simp only [impl_Replay.l0] at H
   revert H; refine iN (fun c18b0 H => ?_) (fun c18b0 H => ?_)
   ·simp only [Option.some.injEq, Prod.mk.injEq] at H
    obtain ⟨rfl, rfl, rfl⟩ := H
    have hnbx1 := NBz4.out
    have hncx1 := NBz3.out
    have hnbx2 := NBz6.out
    have hncx2 := NBz5.out
    have hczx1 := cZ2 BKz3.out
    obtain ⟨Aox1, cox1, eox1⟩ := Kd.R_slice HO_y1.out
    subst eox1
    have hnbx3 := NBz2.out
    have hncx3 := NBz1.out
    have hczx3 := cZ2 BKz2.out
    go_wp2
    refine bodyPost_ret (results_ct rfl _ _ gbz2 41 #[.slice Aox1 x109000_1.length cox1, .int .i64 x109001_1] (0, 0) _ rfl (bP BKz2.out) Tryz.underlying41 rfl (by kernel_rfl)) rfl ?_
    exact ⟨_, rE, (rT (h := by exact Kd.R_mono (Kd.R_far (p := ⟨gbz2, 1, none⟩) (Kd.R_far (p := ⟨gbz2, 0, none⟩) (Kd.R_types HO_y1.out BKz2.out (by decide)) (fun _ hk => hk.2) (.slice Aox1 x109000_1.length cox1)) (fun _ hk => hk.2) (.int .i64 x109001_1)) (fun _ hk => trivial))), (hX HB.out)⟩
   replace H := ifQ H; obtain ⟨c19b0, H⟩ := H
   replace H := ifQ H; obtain ⟨c20b0, H⟩ := H
   replace H := ifQ H; obtain ⟨c21b0, H⟩ := H
   replace H := ifQ H; obtain ⟨c22b0, H⟩ := H
   obtain ⟨adx1, ex1, px1, qx1, hxx1⟩ := at_ic HR0_5 HB x19_1
   cases ex1
   have hnbx1 := NBz1.out
   have hncx1 := NBz2.out
   have hnbx2 := NBz3.out
   have hncx2 := NBz4.out
   have hczx1 := cZ8 BKz1.out
   obtain ⟨adx2, Ax1, cx1, ex2, px2, qx2, hxx2, HCx1, HRx1⟩ := at_T73c HR0_4 HB (rd l0_5 x19_1)
   cases ex2
   go_wp2_with (refine boxE 8 #[.int .i64 0, .int .i64 0, .int .i64 0, .int .i64 0, .int .i64 0, .int .i64 0, .int .i64 0, .int .i64 0, .slice none 0 0] 73 ?_; intro gbx1 hg wx1 hbox hb; have BKx1 := aM (hbox); have GWx1 := aG hg HB; have GEx1 := aG hg HB; have NBx1 := aL hg BKz1; have NBx2 := aR hg BKz1; have NBx3 := aL hg BKz2; have NBx4 := aR hg BKz2; have NBx5 := aL hg BKz3; have NBx6 := aR hg BKz3; replace HO_y1 := aQ HO_y1 hb; replace BKz1 := aB BKz1 hb; replace BKz2 := aB BKz2 hb; replace BKz3 := aB BKz3 hb; replace HB := aS HB hb; clear hb hbox hg; have hnbx3 := NBx2.out; have hncx3 := NBx1.out; have hnbx4 := NBx4.out; have hncx4 := NBx3.out; have hnbx5 := NBx6.out; have hncx5 := NBx5.out; have hczx9 := cZ9 BKx1.out; have hnbx6 := NBz6.out; have hncx6 := NBz5.out; have hczx18 := cZ2 BKz3.out; obtain ⟨Aox1, cox1, eox1⟩ := Kd.R_slice HO_y1.out; subst eox1; refine Stop.out ?_)
   refine ⟨?_⟩
   cases x5_1
   case false =>
    rw [if_neg nft] at H
    replace H := bE H; obtain ⟨⟨t117, t120⟩, A43, H⟩ := H
    try dsimp only at H
    have H' := aM H
    clear H
    go_wp2_with (refine goesM 83 42 Tryz.func83 #[.agg #[.slice Aox1 x109000_1.length cox1, .int .i64 x109001_1], .agg #[.int .i64 ((rd_T73 l0_4 (rd l0_5 x19_1)).f1.f0), .int .i64 ((rd_T73 l0_4 (rd l0_5 x19_1)).f1.f1), .int .i64 ((rd_T73 l0_4 (rd l0_5 x19_1)).f1.f2)], .agg #[.int .i64 ((rd_T73 l0_4 (rd l0_5 x19_1)).f5.f0), .slice Ax1 ((rd_T73 l0_4 (rd l0_5 x19_1)).f5.f1).length cx1]] ?_; refine (impl_After.calls k1 _ _ x109000_1 x109001_1 ((rd_T73 l0_4 (rd l0_5 x19_1)).f1.f0) ((rd_T73 l0_4 (rd l0_5 x19_1)).f1.f1) ((rd_T73 l0_4 (rd l0_5 x19_1)).f1.f2) ((rd_T73 l0_4 (rd l0_5 x19_1)).f5.f0) _ _ ((rd_T73 l0_4 (rd l0_5 x19_1)).f5.f1) t117 t120 _ (rR HO_y1.out BKx1.out) ((Kd.R_reads' HO_y1.out).2.1) (by exact Kd.C_below HRx1.out (hX HB.out)) HCx1.out A43.out).mono ?_; rintro e wx2 ⟨vx1, rfl, hoz1, hb⟩; refine ⟨_, rfl, ?_⟩; have HOx1 := aM (Kd.R_lower (Kd.R_new' hoz1 (Kd.R_lt (rF HO_y1.out BKx1.out))) (below_size (hX HB.out))); replace HO_y1 := aM (Kd.R_elder' (rF HO_y1.out BKx1.out) (Kd.R_base hoz1) hb); replace BKz1 := aF BKz1 hb; replace BKz2 := aF BKz2 hb; replace BKz3 := aF BKz3 hb; replace BKx1 := aM (blk_below (g := gbx1) (o := .cells #[.int .i64 ((rd_T73 l0_4 (rd l0_5 x19_1)).f0), .int .i64 ((rd_T73 l0_4 (rd l0_5 x19_1)).f1.f0), .int .i64 ((rd_T73 l0_4 (rd l0_5 x19_1)).f1.f1), .int .i64 ((rd_T73 l0_4 (rd l0_5 x19_1)).f1.f2), .int .i64 ((rd_T73 l0_4 (rd l0_5 x19_1)).f2), .int .i64 ((rd_T73 l0_4 (rd l0_5 x19_1)).f3), .int .i64 ((rd_T73 l0_4 (rd l0_5 x19_1)).f4), .int .i64 ((rd_T73 l0_4 (rd l0_5 x19_1)).f5.f0), .slice Ax1 ((rd_T73 l0_4 (rd l0_5 x19_1)).f5.f1).length cx1] 73 (0, 0)) (bP BKx1.out) hb); replace HB := aS HB hb; clear hb hoz1; obtain ⟨Aox2, cox2, eox2⟩ := Kd.R_slice HOx1.out; subst eox2; have hczx20 := cZ2 BKz3.out)
    go_roundg k1
    case measure => have := HKy1.out; omega
    case rel => exact ⟨(false), (wrap64 (x19_1 + 1)), (t117), (t120), (.slice Aox2 t117.length cox2), rS, rS, H', ⟨by have := HKy1.out; omega⟩, ⟨(rT (h := by exact Kd.R_mono (Kd.R_far (p := ⟨gbz3, 1, none⟩) (Kd.R_far (p := ⟨gbz3, 0, none⟩) (Kd.R_types HOx1.out BKz3.out (by decide)) (fun _ hk => hk.2) (.slice Aox2 t117.length cox2)) (fun _ hk => hk.2) (.int .i64 t120)) (fun _ hk => trivial)))⟩, ⟨(bF BKz1.out)⟩, ⟨(bF BKz2.out)⟩, ⟨(bP BKz3.out)⟩, ⟨(hX HB.out)⟩⟩
   rw [if_pos rfl] at H
   replace H := bE H; obtain ⟨t112, A24, H⟩ := H
   replace H := bE H; obtain ⟨⟨t113, t116⟩, A25, H⟩ := H
   try dsimp only at H
   have H' := aM H
   clear H
   go_wp2_with (first | (go_at_call 82; (with_reducible refine (impl_Allowed.calls k1 _ _ x109000_1 x109001_1 ((rd_T73 l0_4 (rd l0_5 x19_1)).f1.f0) ((rd_T73 l0_4 (rd l0_5 x19_1)).f1.f1) ((rd_T73 l0_4 (rd l0_5 x19_1)).f1.f2) ((rd_T73 l0_4 (rd l0_5 x19_1)).f5.f0) _ _ ((rd_T73 l0_4 (rd l0_5 x19_1)).f5.f1) t112 _ (rR HO_y1.out BKx1.out) ((Kd.R_reads' HO_y1.out).2.1) (by exact Kd.C_below HRx1.out (hX HB.out)) HCx1.out A24.out).mono ?_); rintro e wx2 ⟨rfl, hb⟩; replace HO_y1 := aM (Kd.R_below (rF HO_y1.out BKx1.out) hb); replace BKz1 := aF BKz1 hb; replace BKz2 := aF BKz2 hb; replace BKz3 := aF BKz3 hb; replace BKx1 := aM (blk_below (g := gbx1) (o := .cells #[.int .i64 ((rd_T73 l0_4 (rd l0_5 x19_1)).f0), .int .i64 ((rd_T73 l0_4 (rd l0_5 x19_1)).f1.f0), .int .i64 ((rd_T73 l0_4 (rd l0_5 x19_1)).f1.f1), .int .i64 ((rd_T73 l0_4 (rd l0_5 x19_1)).f1.f2), .int .i64 ((rd_T73 l0_4 (rd l0_5 x19_1)).f2), .int .i64 ((rd_T73 l0_4 (rd l0_5 x19_1)).f3), .int .i64 ((rd_T73 l0_4 (rd l0_5 x19_1)).f4), .int .i64 ((rd_T73 l0_4 (rd l0_5 x19_1)).f5.f0), .slice Ax1 ((rd_T73 l0_4 (rd l0_5 x19_1)).f5.f1).length cx1] 73 (0, 0)) (bP BKx1.out) hb); replace HB := aS HB hb; clear hb; have hczx20 := cZ2 BKz3.out; have hczx22 := cZ9 BKx1.out) | (refine goesM 83 42 Tryz.func83 #[.agg #[.slice Aox1 x109000_1.length cox1, .int .i64 x109001_1], .agg #[.int .i64 ((rd_T73 l0_4 (rd l0_5 x19_1)).f1.f0), .int .i64 ((rd_T73 l0_4 (rd l0_5 x19_1)).f1.f1), .int .i64 ((rd_T73 l0_4 (rd l0_5 x19_1)).f1.f2)], .agg #[.int .i64 ((rd_T73 l0_4 (rd l0_5 x19_1)).f5.f0), .slice Ax1 ((rd_T73 l0_4 (rd l0_5 x19_1)).f5.f1).length cx1]] ?_; refine (impl_After.calls _ _ _ _ _ _ _ _ _ _ _ _ _ _ _ (cX (Kd.R_reads' HO_y1.out).2.2) ((Kd.R_reads' HO_y1.out).2.1) (cC HRx1.out HB.out) HCx1.out A25.out).mono ?_; rintro e wx3 ⟨vx1, rfl, hoz1, hb⟩; refine ⟨_, rfl, ?_⟩; have HOx1 := aM (Kd.R_lower (Kd.R_new' hoz1 (Kd.R_lt (rX HO_y1.out))) (below_size (hX HB.out))); replace HO_y1 := aM (Kd.R_elder' (rX HO_y1.out) (Kd.R_base hoz1) hb); replace BKz1 := aB BKz1 hb; replace BKz2 := aB BKz2 hb; replace BKz3 := aB BKz3 hb; replace BKx1 := aM (blk_below (g := gbx1) (o := .cells #[.int .i64 ((rd_T73 l0_4 (rd l0_5 x19_1)).f0), .int .i64 ((rd_T73 l0_4 (rd l0_5 x19_1)).f1.f0), .int .i64 ((rd_T73 l0_4 (rd l0_5 x19_1)).f1.f1), .int .i64 ((rd_T73 l0_4 (rd l0_5 x19_1)).f1.f2), .int .i64 ((rd_T73 l0_4 (rd l0_5 x19_1)).f2), .int .i64 ((rd_T73 l0_4 (rd l0_5 x19_1)).f3), .int .i64 ((rd_T73 l0_4 (rd l0_5 x19_1)).f4), .int .i64 ((rd_T73 l0_4 (rd l0_5 x19_1)).f5.f0), .slice Ax1 ((rd_T73 l0_4 (rd l0_5 x19_1)).f5.f1).length cx1] 73 (0, 0)) (bX BKx1.out) hb); replace HB := aS HB hb; clear hb hoz1; obtain ⟨Aox2, cox2, eox2⟩ := Kd.R_slice HOx1.out; subst eox2; have hczx31 := cZ2 BKz3.out))
   go_roundg k1
   case measure => have := HKy1.out; omega
   case rel => exact ⟨(t112), (wrap64 (x19_1 + 1)), (t113), (t116), (.slice Aox2 t113.length cox2), rS, rS, H', ⟨by have := HKy1.out; omega⟩, ⟨(rT (h := by exact Kd.R_mono (Kd.R_far (p := ⟨gbz3, 1, none⟩) (Kd.R_far (p := ⟨gbz3, 0, none⟩) (Kd.R_types HOx1.out BKz3.out (by decide)) (fun _ hk => hk.2) (.slice Aox2 t113.length cox2)) (fun _ hk => hk.2) (.int .i64 t116)) (fun _ hk => trivial)))⟩, ⟨(bF BKz1.out)⟩, ⟨(bF BKz2.out)⟩, ⟨(bP BKz3.out)⟩, ⟨(hX HB.out)⟩⟩
def impl_JudgeSo.f (k : Nat) (l0_0 : List (S140)) (l0_1 : List (S162)) (l0_2 : List (S97)) (a0_3 : Int) (l0_4 : List (S73)) (l0_5 : List Int) (l0_6 : List Int) (a0_7 : Int) : Option (Bool) := (impl_Replay.f k l0_0 l0_1 l0_2 a0_3 l0_4 l0_5 l0_6 a0_7).bind fun bt102 => (some bt102.2.2)
theorem impl_JudgeSo.calls (k : Nat) (A0_0 : Option Addr) (c0_0 : Nat) (l0_0 : List (S140)) (A0_1 : Option Addr) (c0_1 : Nat) (l0_1 : List (S162)) (A0_2 : Option Addr) (c0_2 : Nat) (l0_2 : List (S97)) (a0_3 : Int) (A0_4 : Option Addr) (c0_4 : Nat) (l0_4 : List (S73)) (A0_5 : Option Addr) (c0_5 : Nat) (l0_5 : List Int) (A0_6 : Option Addr) (c0_6 : Nat) (l0_6 : List Int) (a0_7 : Int) (r : Bool) (w : World) (hr0_0 : Kd.C k140 w A0_0 l0_0.length l0_0) (hc0_0 : l0_0.length ≤ c0_0) (hr0_1 : Kd.C k162 w A0_1 l0_1.length l0_1) (hc0_1 : l0_1.length ≤ c0_1) (hr0_2 : Kd.C k97 w A0_2 l0_2.length l0_2) (hc0_2 : l0_2.length ≤ c0_2) (hr0_4 : Kd.C k73 w A0_4 l0_4.length l0_4) (hc0_4 : l0_4.length ≤ c0_4) (hr0_5 : Kd.C (Kd.int .i64) w A0_5 l0_5.length l0_5) (hc0_5 : l0_5.length ≤ c0_5) (hr0_6 : Kd.C (Kd.int .i64) w A0_6 l0_6.length l0_6) (hc0_6 : l0_6.length ≤ c0_6) (h : impl_JudgeSo.f k l0_0 l0_1 l0_2 a0_3 l0_4 l0_5 l0_6 a0_7 = some r) :
  Calls Tryz.prog 33 #[.agg #[.slice A0_0 l0_0.length c0_0, .slice A0_1 l0_1.length c0_1, .slice A0_2 l0_2.length c0_2, .int .i64 a0_3, .slice A0_4 l0_4.length c0_4, .slice A0_5 l0_5.length c0_5, .slice A0_6 l0_6.length c0_6, .int .i64 a0_7]] w fun e w' => e = .returned (.bool r) ∧ Below w.heap.size w w' := by
 have hu43 := Tryz.underlying43
 have hu41 := Tryz.underlying41
 have HR0_0 := aM hr0_0
 have HC0_0 := aM hc0_0
 clear hr0_0 hc0_0
 have HR0_1 := aM hr0_1
 have HC0_1 := aM hc0_1
 clear hr0_1 hc0_1
 have HR0_2 := aM hr0_2
 have HC0_2 := aM hc0_2
 clear hr0_2 hc0_2
 have HR0_4 := aM hr0_4
 have HC0_4 := aM hc0_4
 clear hr0_4 hc0_4
 have HR0_5 := aM hr0_5
 have HC0_5 := aM hc0_5
 clear hr0_5 hc0_5
 have HR0_6 := aM hr0_6
 have HC0_6 := aM hc0_6
 clear hr0_6 hc0_6
 have HB := aM (Below.refl w.heap.size w)
 have H := h
 unfold impl_JudgeSo.f at H
 clear h
 replace H := bE H; obtain ⟨⟨t102, t105, t106⟩, A2, H⟩ := H
 try dsimp only at H
 obtain rfl := sI H
 go_enter Tryz.func33, Tryz.ntmps33
 go_wp2_with (first | (refine boxE 1 #[.slice A0_0 l0_0.length c0_0, .slice A0_1 l0_1.length c0_1, .slice A0_2 l0_2.length c0_2, .int .i64 a0_3, .slice A0_4 l0_4.length c0_4, .slice A0_5 l0_5.length c0_5, .slice A0_6 l0_6.length c0_6, .int .i64 a0_7] 43 ?_; intro gbz1 hg wz1 hbox hb; have BKz1 := aM (hbox); have GWz1 := aG hg HB; have GEz1 := aG hg HB; replace HB := aS HB hb; clear hb hbox hg; have hczz1 := cZ8 BKz1.out) | (refine goesM 30 7 Tryz.func30 #[.agg #[.slice A0_0 l0_0.length c0_0, .slice A0_1 l0_1.length c0_1, .slice A0_2 l0_2.length c0_2, .int .i64 a0_3, .slice A0_4 l0_4.length c0_4, .slice A0_5 l0_5.length c0_5, .slice A0_6 l0_6.length c0_6, .int .i64 a0_7]] ?_; refine (impl_Replay.calls _ _ _ _ _ _ _ _ _ _ _ _ _ _ _ _ _ _ _ _ _ _ _ _ _ (cC HR0_0.out HB.out) HC0_0.out (cC HR0_1.out HB.out) HC0_1.out (cC HR0_2.out HB.out) HC0_2.out (cC HR0_4.out HB.out) HC0_4.out (cC HR0_5.out HB.out) HC0_5.out (cC HR0_6.out HB.out) HC0_6.out A2.out).mono ?_; rintro e wz2 ⟨vz1, rfl, hoz1, hb⟩; refine ⟨_, rfl, ?_⟩; have HOz1 := aM (Kd.R_lower hoz1 (below_size (hX HB.out))); replace BKz1 := aB BKz1 hb; replace HB := aS HB hb; clear hb hoz1) | (refine boxE 3 #[.slice none 0 0, .int .i64 0] 41 ?_; intro gbz2 hg wz3 hbox hb; have BKz2 := aM (hbox); have GWz2 := aG hg HB; have GEz2 := aG hg HB; have NBz1 := aL hg BKz1; have NBz2 := aR hg BKz1; replace HOz1 := aQ HOz1 hb; replace BKz1 := aB BKz1 hb; replace HB := aS HB hb; clear hb hbox hg; obtain ⟨Aoz1, coz1, eoz1⟩ := Kd.R_slice HOz1.out; subst eoz1; have hnbz1 := NBz2.out; have hncz1 := NBz1.out; have hczz9 := cZ2 BKz2.out))
 go_ret
 exact ⟨rE, (hX HB.out)⟩
def laws_FnExactJudgeSo.f (k : Nat) (l0_0 : List (S176)) (l0_1 : List (S155)) (l0_2 : List (S114)) (a0_3 : Int) (l0_4 : List (S119)) (l0_5 : List Int) (l0_6 : List Int) (a0_7 : Int) : Option (Bool) := (laws_szMachine.f k l0_0 l0_1 l0_2 a0_3 l0_4 l0_5 l0_6 a0_7 1048576).bind fun t102 => (if t102 < 0 then (some true) else ((laws_toMachine.f k l0_0 l0_1 l0_2 a0_3 l0_4 l0_5 l0_6 a0_7).bind fun bt103 => ((spec_JudgeSo.f k bt103.1 bt103.2.1 bt103.2.2.1 bt103.2.2.2.1 bt103.2.2.2.2.1 bt103.2.2.2.2.2.1 bt103.2.2.2.2.2.2.1 bt103.2.2.2.2.2.2.2).bind fun t123 => ((laws_toMachine.f k l0_0 l0_1 l0_2 a0_3 l0_4 l0_5 l0_6 a0_7).bind fun bt124 => ((impl_JudgeSo.f k bt124.1 bt124.2.1 bt124.2.2.1 bt124.2.2.2.1 bt124.2.2.2.2.1 bt124.2.2.2.2.2.1 bt124.2.2.2.2.2.2.1 bt124.2.2.2.2.2.2.2).bind fun t145 => (if (t145 != t123) = true then (some false) else ((laws_toMachine.f k l0_0 l0_1 l0_2 a0_3 l0_4 l0_5 l0_6 a0_7).bind fun bt146 => ((laws_eqMachine.f k bt124.1 bt124.2.1 bt124.2.2.1 bt124.2.2.2.1 bt124.2.2.2.2.1 bt124.2.2.2.2.2.1 bt124.2.2.2.2.2.2.1 bt124.2.2.2.2.2.2.2 bt146.1 bt146.2.1 bt146.2.2.1 bt146.2.2.2.1 bt146.2.2.2.2.1 bt146.2.2.2.2.2.1 bt146.2.2.2.2.2.2.1 bt146.2.2.2.2.2.2.2).bind fun t166 => (if t166 = true then (some true) else (some false))))))))))
theorem laws_FnExactJudgeSo.calls (k : Nat) (A0_0 : Option Addr) (c0_0 : Nat) (l0_0 : List (S176)) (A0_1 : Option Addr) (c0_1 : Nat) (l0_1 : List (S155)) (A0_2 : Option Addr) (c0_2 : Nat) (l0_2 : List (S114)) (a0_3 : Int) (A0_4 : Option Addr) (c0_4 : Nat) (l0_4 : List (S119)) (A0_5 : Option Addr) (c0_5 : Nat) (l0_5 : List Int) (A0_6 : Option Addr) (c0_6 : Nat) (l0_6 : List Int) (a0_7 : Int) (r : Bool) (w : World) (hr0_0 : Kd.C k176 w A0_0 l0_0.length l0_0) (hc0_0 : l0_0.length ≤ c0_0) (hr0_1 : Kd.C k155 w A0_1 l0_1.length l0_1) (hc0_1 : l0_1.length ≤ c0_1) (hr0_2 : Kd.C k114 w A0_2 l0_2.length l0_2) (hc0_2 : l0_2.length ≤ c0_2) (hr0_4 : Kd.C k119 w A0_4 l0_4.length l0_4) (hc0_4 : l0_4.length ≤ c0_4) (hr0_5 : Kd.C (Kd.int .i64) w A0_5 l0_5.length l0_5) (hc0_5 : l0_5.length ≤ c0_5) (hr0_6 : Kd.C (Kd.int .i64) w A0_6 l0_6.length l0_6) (hc0_6 : l0_6.length ≤ c0_6) (h : laws_FnExactJudgeSo.f k l0_0 l0_1 l0_2 a0_3 l0_4 l0_5 l0_6 a0_7 = some r) :
  Calls Tryz.prog 7 #[.agg #[.slice A0_0 l0_0.length c0_0, .slice A0_1 l0_1.length c0_1, .slice A0_2 l0_2.length c0_2, .int .i64 a0_3, .slice A0_4 l0_4.length c0_4, .slice A0_5 l0_5.length c0_5, .slice A0_6 l0_6.length c0_6, .int .i64 a0_7]] w fun e w' => e = .returned (.bool r) ∧ Below w.heap.size w w' := by
 have hu32 := Tryz.underlying32
 have hu43 := Tryz.underlying43
 have HR0_0 := aM hr0_0
 have HC0_0 := aM hc0_0
 clear hr0_0 hc0_0
 have HR0_1 := aM hr0_1
 have HC0_1 := aM hc0_1
 clear hr0_1 hc0_1
 have HR0_2 := aM hr0_2
 have HC0_2 := aM hc0_2
 clear hr0_2 hc0_2
 have HR0_4 := aM hr0_4
 have HC0_4 := aM hc0_4
 clear hr0_4 hc0_4
 have HR0_5 := aM hr0_5
 have HC0_5 := aM hc0_5
 clear hr0_5 hc0_5
 have HR0_6 := aM hr0_6
 have HC0_6 := aM hc0_6
 clear hr0_6 hc0_6
 have HB := aM (Below.refl w.heap.size w)
 have H := h
 unfold laws_FnExactJudgeSo.f at H
 clear h
 replace H := bE H; obtain ⟨t102, A2, H⟩ := H
 go_enter Tryz.func7, Tryz.ntmps7
 go_wp2_with (refine boxE 1 #[.slice A0_0 l0_0.length c0_0, .slice A0_1 l0_1.length c0_1, .slice A0_2 l0_2.length c0_2, .int .i64 a0_3, .slice A0_4 l0_4.length c0_4, .slice A0_5 l0_5.length c0_5, .slice A0_6 l0_6.length c0_6, .int .i64 a0_7] 32 ?_; intro gbz1 hg wz1 hbox hb; have BKz1 := aM (hbox); have GWz1 := aG hg HB; have GEz1 := aG hg HB; replace HB := aS HB hb; clear hb hbox hg; have hczz1 := cZ8 BKz1.out; refine Stop.out ?_)
 refine ⟨?_⟩
 revert H; refine iP (fun c3b0 H => ?_) (fun c3b0 H => ?_)
 ·obtain rfl := sI H
  go_wp2_with (refine gB 10 9 Tryz.func10 (laws_szMachine.calls _ _ _ _ _ _ _ _ _ _ _ _ _ _ _ _ _ _ _ _ _ _ _ _ (cC HR0_0.out HB.out) HC0_0.out (cC HR0_1.out HB.out) HC0_1.out (cC HR0_2.out HB.out) HC0_2.out (cC HR0_4.out HB.out) HC0_4.out (cC HR0_5.out HB.out) HC0_5.out (cC HR0_6.out HB.out) HC0_6.out A2.out) ?_; intro wz2 hb; replace BKz1 := aB BKz1 hb; replace HB := aS HB hb; clear hb)
  go_ret
  exact ⟨rE, (hX HB.out)⟩
 replace H := bE H; obtain ⟨⟨t103, t106, t109, t112, t113, t116, t119, t122⟩, A7, H⟩ := H
 try dsimp only at H
 replace H := bE H; obtain ⟨t123, A8, H⟩ := H
 replace H := bE H; obtain ⟨⟨t124, t127, t130, t133, t134, t137, t140, t143⟩, A9, H⟩ := H
 try dsimp only at H
 replace H := bE H; obtain ⟨t145, A10, H⟩ := H
 go_wp2_with (first | ((with_reducible refine gate_callee (f := 10) rfl ?_); refine gB 10 9 Tryz.func10 (laws_szMachine.calls _ _ _ _ _ _ _ _ _ _ _ _ _ _ _ _ _ _ _ _ _ _ _ _ (cC HR0_0.out HB.out) HC0_0.out (cC HR0_1.out HB.out) HC0_1.out (cC HR0_2.out HB.out) HC0_2.out (cC HR0_4.out HB.out) HC0_4.out (cC HR0_5.out HB.out) HC0_5.out (cC HR0_6.out HB.out) HC0_6.out A2.out) ?_; intro wz2 hb; replace BKz1 := aB BKz1 hb; replace HB := aS HB hb; clear hb; have hczz9 := cZ8 BKz1.out) | (refine goesM 12 13 Tryz.func12 #[.agg #[.slice A0_0 l0_0.length c0_0, .slice A0_1 l0_1.length c0_1, .slice A0_2 l0_2.length c0_2, .int .i64 a0_3, .slice A0_4 l0_4.length c0_4, .slice A0_5 l0_5.length c0_5, .slice A0_6 l0_6.length c0_6, .int .i64 a0_7]] ?_; refine (laws_toMachine.calls _ _ _ _ _ _ _ _ _ _ _ _ _ _ _ _ _ _ _ _ _ _ _ _ _ _ _ _ _ _ (cC HR0_0.out HB.out) HC0_0.out (cC HR0_1.out HB.out) HC0_1.out (cC HR0_2.out HB.out) HC0_2.out (cC HR0_4.out HB.out) HC0_4.out (cC HR0_5.out HB.out) HC0_5.out (cC HR0_6.out HB.out) HC0_6.out A7.out).mono ?_; rintro e wz3 ⟨vz1, vz2, vz3, vz4, vz5, vz6, rfl, hoz1, hoz2, hoz3, hoz4, hoz5, hoz6, hb⟩; refine ⟨_, rfl, ?_⟩; have HOz1 := aM (Kd.R_lower hoz1 (below_size (hX HB.out))); have HOz2 := aM (Kd.S_lower hoz2 (below_size (hX HB.out))); have HOz3 := aM (Kd.S_lower hoz3 (below_size (hX HB.out))); have HOz4 := aM (Kd.S_lower hoz4 (below_size (hX HB.out))); have HOz5 := aM (Kd.R_lower hoz5 (below_size (hX HB.out))); have HOz6 := aM (Kd.R_lower hoz6 (below_size (hX HB.out))); replace BKz1 := aB BKz1 hb; replace HB := aS HB hb; clear hb hoz1 hoz2 hoz3 hoz4 hoz5 hoz6; obtain ⟨Aoz1, coz1, eoz1⟩ := Kd.R_slice HOz1.out; subst eoz1; obtain ⟨Aoz2, coz2, eoz2⟩ := Kd.S_slice HOz2.out; subst eoz2; obtain ⟨Aoz3, coz3, eoz3⟩ := Kd.S_slice HOz3.out; subst eoz3; obtain ⟨Aoz4, coz4, eoz4⟩ := Kd.S_slice HOz4.out; subst eoz4; obtain ⟨Aoz5, coz5, eoz5⟩ := Kd.R_slice HOz5.out; subst eoz5; obtain ⟨Aoz6, coz6, eoz6⟩ := Kd.R_slice HOz6.out; subst eoz6) | ((with_reducible refine gate_callee (f := 32) rfl ?_); refine gB 32 14 Tryz.func32 (spec_JudgeSo.calls _ _ _ _ _ _ _ _ _ _ _ _ _ _ _ _ _ _ _ _ _ _ _ (cX (Kd.R_reads' HOz1.out).2.2) ((Kd.R_reads' HOz1.out).2.1) (cX (Kd.S_reads' HOz2.out).2.2) ((Kd.S_reads' HOz2.out).2.1) (cX (Kd.S_reads' HOz3.out).2.2) ((Kd.S_reads' HOz3.out).2.1) (cX (Kd.S_reads' HOz4.out).2.2) ((Kd.S_reads' HOz4.out).2.1) (cX (Kd.R_reads' HOz5.out).2.2) ((Kd.R_reads' HOz5.out).2.1) (cX (Kd.R_reads' HOz6.out).2.2) ((Kd.R_reads' HOz6.out).2.1) A8.out) ?_; intro wz4 hb; replace HOz1 := aQ HOz1 hb; replace HOz2 := aT HOz2 hb; replace HOz3 := aT HOz3 hb; replace HOz4 := aT HOz4 hb; replace HOz5 := aQ HOz5 hb; replace HOz6 := aQ HOz6 hb; replace BKz1 := aB BKz1 hb; replace HB := aS HB hb; clear hb; have hczz17 := cZ8 BKz1.out) | (refine goesM 12 16 Tryz.func12 #[.agg #[.slice A0_0 l0_0.length c0_0, .slice A0_1 l0_1.length c0_1, .slice A0_2 l0_2.length c0_2, .int .i64 a0_3, .slice A0_4 l0_4.length c0_4, .slice A0_5 l0_5.length c0_5, .slice A0_6 l0_6.length c0_6, .int .i64 a0_7]] ?_; refine (laws_toMachine.calls _ _ _ _ _ _ _ _ _ _ _ _ _ _ _ _ _ _ _ _ _ _ _ _ _ _ _ _ _ _ (cC HR0_0.out HB.out) HC0_0.out (cC HR0_1.out HB.out) HC0_1.out (cC HR0_2.out HB.out) HC0_2.out (cC HR0_4.out HB.out) HC0_4.out (cC HR0_5.out HB.out) HC0_5.out (cC HR0_6.out HB.out) HC0_6.out A9.out).mono ?_; rintro e wz5 ⟨vz7, vz8, vz9, vz10, vz11, vz12, rfl, hoz1, hoz2, hoz3, hoz4, hoz5, hoz6, hb⟩; refine ⟨_, rfl, ?_⟩; have HOz7 := aM (Kd.R_lower (Kd.R_new' hoz1 (Kd.R_lt (rX HOz1.out))) (below_size (hX HB.out))); have HOz8 := aM (Kd.S_lower (Kd.S_new' (Kd.S_new' (Kd.S_new' hoz2 (Kd.S_lt (sX HOz2.out))) (Kd.R_lt (rX HOz5.out))) (Kd.R_lt (rX HOz6.out))) (below_size (hX HB.out))); have HOz9 := aM (Kd.S_lower (Kd.S_new' hoz3 (Kd.S_lt (sX HOz3.out))) (below_size (hX HB.out))); have HOz10 := aM (Kd.S_lower (Kd.S_new' (Kd.S_new' (Kd.S_new' hoz4 (Kd.S_lt (sX HOz4.out))) (Kd.R_lt (rX HOz5.out))) (Kd.R_lt (rX HOz6.out))) (below_size (hX HB.out))); have HOz11 := aM (Kd.R_lower (Kd.R_new' (Kd.R_new' hoz5 (Kd.R_lt (rX HOz5.out))) (Kd.R_lt (rX HOz6.out))) (below_size (hX HB.out))); have HOz12 := aM (Kd.R_lower (Kd.R_new' (Kd.R_new' hoz6 (Kd.R_lt (rX HOz5.out))) (Kd.R_lt (rX HOz6.out))) (below_size (hX HB.out))); replace HOz1 := aM (Kd.R_elder' (rX HOz1.out) (Kd.R_base hoz1) hb); replace HOz2 := aM (Kd.S_mono (Kd.S_told (Kd.S_told (Kd.S_told (Kd.S_old (sX HOz2.out) hb) (Kd.S_base hoz2)) (Kd.R_base hoz5)) (Kd.R_base hoz6)) (fun _ h_ => h_.1)); replace HOz3 := aM (Kd.S_elder' (sX HOz3.out) (Kd.S_base hoz3) hb); replace HOz4 := aM (Kd.S_mono (Kd.S_told (Kd.S_told (Kd.S_told (Kd.S_old (sX HOz4.out) hb) (Kd.S_base hoz4)) (Kd.R_base hoz5)) (Kd.R_base hoz6)) (fun _ h_ => h_.1)); replace HOz5 := aM (Kd.R_mono (Kd.R_told (Kd.R_told (Kd.R_old (rX HOz5.out) hb) (Kd.R_base hoz5)) (Kd.R_base hoz6)) (fun _ h_ => h_.1)); replace HOz6 := aM (Kd.R_mono (Kd.R_told (Kd.R_told (Kd.R_old (rX HOz6.out) hb) (Kd.R_base hoz5)) (Kd.R_base hoz6)) (fun _ h_ => h_.1)); replace BKz1 := aB BKz1 hb; replace HB := aS HB hb; clear hb hoz1 hoz2 hoz3 hoz4 hoz5 hoz6) | (refine boxE 5 #[.slice none 0 0, .slice none 0 0, .slice none 0 0, .int .i64 0, .slice none 0 0, .slice none 0 0, .slice none 0 0, .int .i64 0] 43 ?_; intro gbz2 hg wz6 hbox hb; have BKz2 := aM (hbox); have GWz2 := aG hg HB; have GEz2 := aG hg HB; have NBz1 := aL hg BKz1; have NBz2 := aR hg BKz1; replace HOz1 := aQ HOz1 hb; replace HOz2 := aT HOz2 hb; replace HOz3 := aT HOz3 hb; replace HOz4 := aT HOz4 hb; replace HOz5 := aQ HOz5 hb; replace HOz6 := aQ HOz6 hb; replace HOz7 := aQ HOz7 hb; replace HOz8 := aT HOz8 hb; replace HOz9 := aT HOz9 hb; replace HOz10 := aT HOz10 hb; replace HOz11 := aQ HOz11 hb; replace HOz12 := aQ HOz12 hb; replace BKz1 := aB BKz1 hb; replace HB := aS HB hb; clear hb hbox hg; obtain ⟨Aoz7, coz7, eoz7⟩ := Kd.R_slice HOz7.out; subst eoz7; have hnbz1 := NBz2.out; have hncz1 := NBz1.out; have hczz25 := cZ8 BKz2.out; obtain ⟨Aoz8, coz8, eoz8⟩ := Kd.S_slice HOz8.out; subst eoz8; obtain ⟨Aoz9, coz9, eoz9⟩ := Kd.S_slice HOz9.out; subst eoz9; obtain ⟨Aoz10, coz10, eoz10⟩ := Kd.S_slice HOz10.out; subst eoz10; obtain ⟨Aoz11, coz11, eoz11⟩ := Kd.R_slice HOz11.out; subst eoz11; obtain ⟨Aoz12, coz12, eoz12⟩ := Kd.R_slice HOz12.out; subst eoz12) | ((with_reducible refine gate_callee (f := 33) rfl ?_); refine gB 33 18 Tryz.func33 (impl_JudgeSo.calls _ _ _ _ _ _ _ _ _ _ _ _ _ _ _ _ _ _ _ _ _ _ _ (rR HOz7.out BKz2.out) ((Kd.R_reads' HOz7.out).2.1) (sR HOz8.out BKz2.out) ((Kd.S_reads' HOz8.out).2.1) (sR HOz9.out BKz2.out) ((Kd.S_reads' HOz9.out).2.1) (sR HOz10.out BKz2.out) ((Kd.S_reads' HOz10.out).2.1) (rR HOz11.out BKz2.out) ((Kd.R_reads' HOz11.out).2.1) (rR HOz12.out BKz2.out) ((Kd.R_reads' HOz12.out).2.1) A10.out) ?_; intro wz7 hb; replace HOz1 := aM (Kd.R_below (rF HOz1.out BKz2.out) hb); replace HOz2 := aM (Kd.S_below (sF HOz2.out BKz2.out) hb); replace HOz3 := aM (Kd.S_below (sF HOz3.out BKz2.out) hb); replace HOz4 := aM (Kd.S_below (sF HOz4.out BKz2.out) hb); replace HOz5 := aM (Kd.R_below (rF HOz5.out BKz2.out) hb); replace HOz6 := aM (Kd.R_below (rF HOz6.out BKz2.out) hb); replace HOz7 := aM (Kd.R_below (rF HOz7.out BKz2.out) hb); replace HOz8 := aM (Kd.S_below (sF HOz8.out BKz2.out) hb); replace HOz9 := aM (Kd.S_below (sF HOz9.out BKz2.out) hb); replace HOz10 := aM (Kd.S_below (sF HOz10.out BKz2.out) hb); replace HOz11 := aM (Kd.R_below (rF HOz11.out BKz2.out) hb); replace HOz12 := aM (Kd.R_below (rF HOz12.out BKz2.out) hb); replace BKz1 := aF BKz1 hb; replace BKz2 := aM (blk_below (g := gbz2) (o := .cells #[.slice Aoz7 t124.length coz7, .slice Aoz8 t127.length coz8, .slice Aoz9 t130.length coz9, .int .i64 t133, .slice Aoz10 t134.length coz10, .slice Aoz11 t137.length coz11, .slice Aoz12 t140.length coz12, .int .i64 t143] 43 (0, 0)) (bP BKz2.out) hb); replace HB := aS HB hb; clear hb; refine Stop.out ?_))
 refine ⟨?_⟩
 by_cases c11 : (t145 != t123) = true
 ·rw [if_pos c11] at H
  have c11b0 : (t145 != t123) = true := c11
  (try (have c11b1 : decide (t145 = t123) = false := by simpa using c11))
  (try (have c11b2 : (t145 == t123) = false := by simpa using c11))
  (try (have c11b3 : ¬ (t145 = t123) := by simpa using c11))
  clear c11
  exact fR
 rw [if_neg c11] at H
 have c11b0 : (t145 != t123) = false := by simpa using c11
 (try (have c11b1 : decide (t145 = t123) = true := by simpa using c11))
 (try (have c11b2 : (t145 == t123) = true := by simpa using c11))
 clear c11
 replace H := bE H; obtain ⟨⟨t146, t149, t152, t155, t156, t159, t162, t165⟩, A36, H⟩ := H
 try dsimp only at H
 replace H := bE H; obtain ⟨t166, A37, H⟩ := H
 try go_wp2
 replace HOz1 := aM (Kd.R_drew HOz1.out)
 replace HOz2 := aM (Kd.S_drew HOz2.out)
 replace HOz3 := aM (Kd.S_drew HOz3.out)
 replace HOz4 := aM (Kd.S_drew HOz4.out)
 replace HOz5 := aM (Kd.R_drew HOz5.out)
 replace HOz6 := aM (Kd.R_drew HOz6.out)
 replace HOz7 := aM (Kd.R_drew HOz7.out)
 replace HOz8 := aM (Kd.S_drew HOz8.out)
 replace HOz9 := aM (Kd.S_drew HOz9.out)
 replace HOz10 := aM (Kd.S_drew HOz10.out)
 replace HOz11 := aM (Kd.R_drew HOz11.out)
 replace HOz12 := aM (Kd.R_drew HOz12.out)
 replace BKz1 := aM (blk_drew BKz1.out)
 replace BKz2 := aM (blk_drew BKz2.out)
 replace HB := aM (below_drew1 HB.out)
 refine start_ (n := 5) (S := fun w' => w'.cell? ⟨gbz2, 0, none⟩ = some (.slice Aoz7 t124.length coz7) ∧ w'.cell? ⟨gbz2, 1, none⟩ = some (.slice Aoz8 t127.length coz8) ∧ w'.cell? ⟨gbz2, 2, none⟩ = some (.slice Aoz9 t130.length coz9) ∧ w'.cell? ⟨gbz2, 3, none⟩ = some (.int .i64 t133) ∧ w'.cell? ⟨gbz2, 4, none⟩ = some (.slice Aoz10 t134.length coz10) ∧ w'.cell? ⟨gbz2, 5, none⟩ = some (.slice Aoz11 t137.length coz11) ∧ w'.cell? ⟨gbz2, 6, none⟩ = some (.slice Aoz12 t140.length coz12) ∧ w'.cell? ⟨gbz2, 7, none⟩ = some (.int .i64 t143) ∧ w'.cell? ⟨gbz1, 0, none⟩ = some (.slice A0_0 l0_0.length c0_0) ∧ w'.cell? ⟨gbz1, 1, none⟩ = some (.slice A0_1 l0_1.length c0_1) ∧ w'.cell? ⟨gbz1, 2, none⟩ = some (.slice A0_2 l0_2.length c0_2) ∧ w'.cell? ⟨gbz1, 3, none⟩ = some (.int .i64 a0_3) ∧ w'.cell? ⟨gbz1, 4, none⟩ = some (.slice A0_4 l0_4.length c0_4) ∧ w'.cell? ⟨gbz1, 5, none⟩ = some (.slice A0_5 l0_5.length c0_5) ∧ w'.cell? ⟨gbz1, 6, none⟩ = some (.slice A0_6 l0_6.length c0_6) ∧ w'.cell? ⟨gbz1, 7, none⟩ = some (.int .i64 a0_7)) (ds := []) (bm 5 0) (by kernel_rfl) rfl (by kernel_rfl) ⟨cK BKz2.out 0, cK BKz2.out 1, cK BKz2.out 2, cK BKz2.out 3, cK BKz2.out 4, cK BKz2.out 5, cK BKz2.out 6, cK BKz2.out 7, cK BKz1.out 0, cK BKz1.out 1, cK BKz1.out 2, cK BKz1.out 3, cK BKz1.out 4, cK BKz1.out 5, cK BKz1.out 6, cK BKz1.out 7⟩ (fun hHeld => ?_)
 generalize wz7.drew = wz8 at HOz1 HOz2 HOz3 HOz4 HOz5 HOz6 HOz7 HOz8 HOz9 HOz10 HOz11 HOz12 BKz1 BKz2 HB hHeld ⊢
 refine tK 0 22 (bm 5 1) hHeld ?_
 refine tK 1 23 (bm 5 3) hHeld ?_
 refine oK 2 (some 24) (bm 5 7) (fun K hK => ?_)
 refine goesN Tryz.func12 #[.agg #[.slice A0_0 l0_0.length c0_0, .slice A0_1 l0_1.length c0_1, .slice A0_2 l0_2.length c0_2, .int .i64 a0_3, .slice A0_4 l0_4.length c0_4, .slice A0_5 l0_5.length c0_5, .slice A0_6 l0_6.length c0_6, .int .i64 a0_7]] ?_
 refine (laws_toMachine.calls k _ _ l0_0 _ _ l0_1 _ _ l0_2 a0_3 _ _ l0_4 _ _ l0_5 _ _ l0_6 a0_7 t146 t149 t152 t155 t156 t159 t162 t165 _ (cC HR0_0.out HB.out) HC0_0.out (cC HR0_1.out HB.out) HC0_1.out (cC HR0_2.out HB.out) HC0_2.out (cC HR0_4.out HB.out) HC0_4.out (cC HR0_5.out HB.out) HC0_5.out (cC HR0_6.out HB.out) HC0_6.out A36.out).mono ?_
 rintro e wz9 ⟨vz13, vz14, vz15, vz16, vz17, vz18, rfl, hoz1, hoz2, hoz3, hoz4, hoz5, hoz6, hb⟩
 refine ⟨_, rfl, ?_⟩
 have HOz13 := aM (Kd.R_lower (Kd.R_new' (Kd.R_new' hoz1 (Kd.R_lt (rX HOz1.out))) (Kd.R_lt (rX HOz7.out))) (below_size (hX HB.out)))
 have HOz14 := aM (Kd.S_lower (Kd.S_new' (Kd.S_new' (Kd.S_new' (Kd.S_new' (Kd.S_new' (Kd.S_new' hoz2 (Kd.S_lt (sX HOz2.out))) (Kd.R_lt (rX HOz5.out))) (Kd.R_lt (rX HOz6.out))) (Kd.S_lt (sX HOz8.out))) (Kd.R_lt (rX HOz11.out))) (Kd.R_lt (rX HOz12.out))) (below_size (hX HB.out)))
 have HOz15 := aM (Kd.S_lower (Kd.S_new' (Kd.S_new' hoz3 (Kd.S_lt (sX HOz3.out))) (Kd.S_lt (sX HOz9.out))) (below_size (hX HB.out)))
 have HOz16 := aM (Kd.S_lower (Kd.S_new' (Kd.S_new' (Kd.S_new' (Kd.S_new' (Kd.S_new' (Kd.S_new' hoz4 (Kd.S_lt (sX HOz4.out))) (Kd.R_lt (rX HOz5.out))) (Kd.R_lt (rX HOz6.out))) (Kd.S_lt (sX HOz10.out))) (Kd.R_lt (rX HOz11.out))) (Kd.R_lt (rX HOz12.out))) (below_size (hX HB.out)))
 have HOz17 := aM (Kd.R_lower (Kd.R_new' (Kd.R_new' (Kd.R_new' (Kd.R_new' hoz5 (Kd.R_lt (rX HOz5.out))) (Kd.R_lt (rX HOz6.out))) (Kd.R_lt (rX HOz11.out))) (Kd.R_lt (rX HOz12.out))) (below_size (hX HB.out)))
 have HOz18 := aM (Kd.R_lower (Kd.R_new' (Kd.R_new' (Kd.R_new' (Kd.R_new' hoz6 (Kd.R_lt (rX HOz5.out))) (Kd.R_lt (rX HOz6.out))) (Kd.R_lt (rX HOz11.out))) (Kd.R_lt (rX HOz12.out))) (below_size (hX HB.out)))
 replace HOz1 := aM (Kd.R_elder' (rX HOz1.out) (Kd.R_base hoz1) hb)
 replace HOz2 := aM (Kd.S_mono (Kd.S_told (Kd.S_told (Kd.S_told (Kd.S_old (sX HOz2.out) hb) (Kd.S_base hoz2)) (Kd.R_base hoz5)) (Kd.R_base hoz6)) (fun _ h_ => h_.1))
 replace HOz3 := aM (Kd.S_elder' (sX HOz3.out) (Kd.S_base hoz3) hb)
 replace HOz4 := aM (Kd.S_mono (Kd.S_told (Kd.S_told (Kd.S_told (Kd.S_old (sX HOz4.out) hb) (Kd.S_base hoz4)) (Kd.R_base hoz5)) (Kd.R_base hoz6)) (fun _ h_ => h_.1))
 replace HOz5 := aM (Kd.R_mono (Kd.R_told (Kd.R_told (Kd.R_old (rX HOz5.out) hb) (Kd.R_base hoz5)) (Kd.R_base hoz6)) (fun _ h_ => h_.1))
 replace HOz6 := aM (Kd.R_mono (Kd.R_told (Kd.R_told (Kd.R_old (rX HOz6.out) hb) (Kd.R_base hoz5)) (Kd.R_base hoz6)) (fun _ h_ => h_.1))
 replace HOz7 := aM (Kd.R_elder' (rX HOz7.out) (Kd.R_base hoz1) hb)
 replace HOz8 := aM (Kd.S_mono (Kd.S_told (Kd.S_told (Kd.S_told (Kd.S_old (sX HOz8.out) hb) (Kd.S_base hoz2)) (Kd.R_base hoz5)) (Kd.R_base hoz6)) (fun _ h_ => h_.1))
 replace HOz9 := aM (Kd.S_elder' (sX HOz9.out) (Kd.S_base hoz3) hb)
 replace HOz10 := aM (Kd.S_mono (Kd.S_told (Kd.S_told (Kd.S_told (Kd.S_old (sX HOz10.out) hb) (Kd.S_base hoz4)) (Kd.R_base hoz5)) (Kd.R_base hoz6)) (fun _ h_ => h_.1))
 replace HOz11 := aM (Kd.R_mono (Kd.R_told (Kd.R_told (Kd.R_old (rX HOz11.out) hb) (Kd.R_base hoz5)) (Kd.R_base hoz6)) (fun _ h_ => h_.1))
 replace HOz12 := aM (Kd.R_mono (Kd.R_told (Kd.R_told (Kd.R_old (rX HOz12.out) hb) (Kd.R_base hoz5)) (Kd.R_base hoz6)) (fun _ h_ => h_.1))
 replace BKz1 := aB BKz1 hb
 replace BKz2 := aB BKz2 hb
 replace HB := aS HB hb
 (try clear hb)
 (try clear hoz1)
 (try clear hoz2)
 (try clear hoz3)
 (try clear hoz4)
 (try clear hoz5)
 (try clear hoz6)
 obtain ⟨Aoz13, coz13, eoz13⟩ := Kd.R_slice HOz13.out
 (first | subst eoz13 | (injection eoz13 with f1_ f2_ f3_; have fz1 := f1_.symm; have fz2 := f3_.symm; clear f1_ f2_ f3_; subst fz1; subst fz2))
 obtain ⟨Aoz14, coz14, eoz14⟩ := Kd.S_slice HOz14.out
 (first | subst eoz14 | (injection eoz14 with f1_ f2_ f3_; have fz1 := f1_.symm; have fz2 := f3_.symm; clear f1_ f2_ f3_; subst fz1; subst fz2))
 obtain ⟨Aoz15, coz15, eoz15⟩ := Kd.S_slice HOz15.out
 (first | subst eoz15 | (injection eoz15 with f1_ f2_ f3_; have fz1 := f1_.symm; have fz2 := f3_.symm; clear f1_ f2_ f3_; subst fz1; subst fz2))
 obtain ⟨Aoz16, coz16, eoz16⟩ := Kd.S_slice HOz16.out
 (first | subst eoz16 | (injection eoz16 with f1_ f2_ f3_; have fz1 := f1_.symm; have fz2 := f3_.symm; clear f1_ f2_ f3_; subst fz1; subst fz2))
 obtain ⟨Aoz17, coz17, eoz17⟩ := Kd.R_slice HOz17.out
 (first | subst eoz17 | (injection eoz17 with f1_ f2_ f3_; have fz1 := f1_.symm; have fz2 := f3_.symm; clear f1_ f2_ f3_; subst fz1; subst fz2))
 obtain ⟨Aoz18, coz18, eoz18⟩ := Kd.R_slice HOz18.out
 (first | subst eoz18 | (injection eoz18 with f1_ f2_ f3_; have fz1 := f1_.symm; have fz2 := f3_.symm; clear f1_ f2_ f3_; subst fz1; subst fz2))
 refine hK.out _ _ ⟨cK BKz2.out 0, cK BKz2.out 1, cK BKz2.out 2, cK BKz2.out 3, cK BKz2.out 4, cK BKz2.out 5, cK BKz2.out 6, cK BKz2.out 7, cK BKz1.out 0, cK BKz1.out 1, cK BKz1.out 2, cK BKz1.out 3, cK BKz1.out 4, cK BKz1.out 5, cK BKz1.out 6, cK BKz1.out 7⟩ (fun hHeld => ?_)
 clear hK K
 refine nZ 24 ?_
 cases t166
 case true =>
  rw [if_pos rfl] at H
  obtain rfl := sI H
  refine oK 3 (some 25) (bm 5 15) (fun K hK => ?_)
  refine goesN Tryz.func14 #[.agg #[.slice Aoz7 t124.length coz7, .slice Aoz8 t127.length coz8, .slice Aoz9 t130.length coz9, .int .i64 t133, .slice Aoz10 t134.length coz10, .slice Aoz11 t137.length coz11, .slice Aoz12 t140.length coz12, .int .i64 t143], .agg #[.slice Aoz13 t146.length coz13, .slice Aoz14 t149.length coz14, .slice Aoz15 t152.length coz15, .int .i64 t155, .slice Aoz16 t156.length coz16, .slice Aoz17 t159.length coz17, .slice Aoz18 t162.length coz18, .int .i64 t165]] ?_
  refine (laws_eqMachine.calls k _ _ t124 _ _ t127 _ _ t130 t133 _ _ t134 _ _ t137 _ _ t140 t143 _ _ t146 _ _ t149 _ _ t152 t155 _ _ t156 _ _ t159 _ _ t162 t165 true _ (rD HOz7.out) (rL HOz7.out) (sD HOz8.out) (sL HOz8.out) (sD HOz9.out) (sL HOz9.out) (sD HOz10.out) (sL HOz10.out) (rD HOz11.out) (rL HOz11.out) (rD HOz12.out) (rL HOz12.out) (rD HOz13.out) (rL HOz13.out) (sD HOz14.out) (sL HOz14.out) (sD HOz15.out) (sL HOz15.out) (sD HOz16.out) (sL HOz16.out) (rD HOz17.out) (rL HOz17.out) (rD HOz18.out) (rL HOz18.out) A37.out).mono ?_
  rintro e wz10 ⟨rfl, hb⟩
  refine ⟨_, rfl, ?_⟩
  replace HOz1 := aQ HOz1 hb
  replace HOz2 := aT HOz2 hb
  replace HOz3 := aT HOz3 hb
  replace HOz4 := aT HOz4 hb
  replace HOz5 := aQ HOz5 hb
  replace HOz6 := aQ HOz6 hb
  replace HOz7 := aQ HOz7 hb
  replace HOz8 := aT HOz8 hb
  replace HOz9 := aT HOz9 hb
  replace HOz10 := aT HOz10 hb
  replace HOz11 := aQ HOz11 hb
  replace HOz12 := aQ HOz12 hb
  replace HOz13 := aQ HOz13 hb
  replace HOz14 := aT HOz14 hb
  replace HOz15 := aT HOz15 hb
  replace HOz16 := aT HOz16 hb
  replace HOz17 := aQ HOz17 hb
  replace HOz18 := aQ HOz18 hb
  replace BKz1 := aB BKz1 hb
  replace BKz2 := aB BKz2 hb
  replace HB := aS HB hb
  (try clear hb)
  refine hK.out _ _ ⟨cK BKz2.out 0, cK BKz2.out 1, cK BKz2.out 2, cK BKz2.out 3, cK BKz2.out 4, cK BKz2.out 5, cK BKz2.out 6, cK BKz2.out 7, cK BKz1.out 0, cK BKz1.out 1, cK BKz1.out 2, cK BKz1.out 3, cK BKz1.out 4, cK BKz1.out 5, cK BKz1.out 6, cK BKz1.out 7⟩ (fun hHeld => ?_)
  clear hK K
  refine nZ 25 ?_
  refine pK 4 26 (bm 5 31) ?_
  refine done_ (by kernel_rfl) ?_
  try go_wp2
  go_ret
  exact ⟨rE, (hX HB.out)⟩
 rw [if_neg nft] at H
 obtain rfl := sI H
 refine oK 3 (some 25) (bm 5 15) (fun K hK => ?_)
 refine goesN Tryz.func14 #[.agg #[.slice Aoz7 t124.length coz7, .slice Aoz8 t127.length coz8, .slice Aoz9 t130.length coz9, .int .i64 t133, .slice Aoz10 t134.length coz10, .slice Aoz11 t137.length coz11, .slice Aoz12 t140.length coz12, .int .i64 t143], .agg #[.slice Aoz13 t146.length coz13, .slice Aoz14 t149.length coz14, .slice Aoz15 t152.length coz15, .int .i64 t155, .slice Aoz16 t156.length coz16, .slice Aoz17 t159.length coz17, .slice Aoz18 t162.length coz18, .int .i64 t165]] ?_
 refine (laws_eqMachine.calls k _ _ t124 _ _ t127 _ _ t130 t133 _ _ t134 _ _ t137 _ _ t140 t143 _ _ t146 _ _ t149 _ _ t152 t155 _ _ t156 _ _ t159 _ _ t162 t165 false _ (rD HOz7.out) (rL HOz7.out) (sD HOz8.out) (sL HOz8.out) (sD HOz9.out) (sL HOz9.out) (sD HOz10.out) (sL HOz10.out) (rD HOz11.out) (rL HOz11.out) (rD HOz12.out) (rL HOz12.out) (rD HOz13.out) (rL HOz13.out) (sD HOz14.out) (sL HOz14.out) (sD HOz15.out) (sL HOz15.out) (sD HOz16.out) (sL HOz16.out) (rD HOz17.out) (rL HOz17.out) (rD HOz18.out) (rL HOz18.out) A37.out).mono ?_
 rintro e wz10 ⟨rfl, hb⟩
 refine ⟨_, rfl, ?_⟩
 replace HOz1 := aQ HOz1 hb
 replace HOz2 := aT HOz2 hb
 replace HOz3 := aT HOz3 hb
 replace HOz4 := aT HOz4 hb
 replace HOz5 := aQ HOz5 hb
 replace HOz6 := aQ HOz6 hb
 replace HOz7 := aQ HOz7 hb
 replace HOz8 := aT HOz8 hb
 replace HOz9 := aT HOz9 hb
 replace HOz10 := aT HOz10 hb
 replace HOz11 := aQ HOz11 hb
 replace HOz12 := aQ HOz12 hb
 replace HOz13 := aQ HOz13 hb
 replace HOz14 := aT HOz14 hb
 replace HOz15 := aT HOz15 hb
 replace HOz16 := aT HOz16 hb
 replace HOz17 := aQ HOz17 hb
 replace HOz18 := aQ HOz18 hb
 replace BKz1 := aB BKz1 hb
 replace BKz2 := aB BKz2 hb
 replace HB := aS HB hb
 (try clear hb)
 refine hK.out _ _ ⟨cK BKz2.out 0, cK BKz2.out 1, cK BKz2.out 2, cK BKz2.out 3, cK BKz2.out 4, cK BKz2.out 5, cK BKz2.out 6, cK BKz2.out 7, cK BKz1.out 0, cK BKz1.out 1, cK BKz1.out 2, cK BKz1.out 3, cK BKz1.out 4, cK BKz1.out 5, cK BKz1.out 6, cK BKz1.out 7⟩ (fun hHeld => ?_)
 clear hK K
 refine nZ 25 ?_
 refine pK 4 26 (bm 5 31) ?_
 refine done_ (by kernel_rfl) ?_
 try go_wp2
 go_ret
 exact ⟨rE, (hX HB.out)⟩
end Go.Proofs.YtmljebgideecjaaGreat.P2
namespace Go.Proofs.YtmljebgideecjaaGreatZ
open Go.RowKit Go.Proofs.YtmljebgideecjaaGreatW.PrintWords Go.Proofs.YtmljebgideecjaaGreatW.PrintLast
def Opens {α : Type} (P : Program) (t : TypeId) (d : Kd α) (wf : α → Prop) : Prop :=
  ∀ (H : Type) (enc : TypeId × Value → H) (w : World) (fuel : Nat) (cs : List Value) (x : DataW H × List MemPlace),
    DataW.trod enc P w 0 (fun _ => true) true fuel t cs = some x → ∃ a, d.K w a cs ∧ wf a
theorem Opens.int {P : Program} {t : TypeId} {k : IntKind} (hu : P.underlying t = some (.int k)) : Opens P t (Kd.int k) (fun n => (Lit.int k n).wf = true) := by
  intro H enc w fuel cs x h
  obtain ⟨n, rfl, _, hw⟩ := DataW.trod_int hu h
  exact ⟨n, rfl, hw⟩
theorem Opens.bool {P : Program} {t : TypeId} (hu : P.underlying t = some .bool) : Opens P t Kd.bool (fun _ => True) := by
  intro H enc w fuel cs x h
  obtain ⟨n, rfl, _⟩ := DataW.trod_bool hu h
  exact ⟨n, rfl, trivial⟩
theorem exists_list {α : Type} (Q : Nat → α → Prop) : ∀ n, (∀ i, i < n → ∃ y, Q i y) → ∃ xs : List α, xs.length = n ∧ ∀ j p, xs[j]? = some p → Q j p
  | 0, _ => ⟨[], rfl, fun j p h => by simp at h⟩
  | n + 1, h => by
    obtain ⟨xs, hl, hx⟩ := exists_list Q n (fun i hi => h i (by omega))
    obtain ⟨y, hy⟩ := h n (by omega)
    refine ⟨xs ++ [y], by simp [hl], fun j p hj => ?_⟩
    by_cases hjn : j < n
    · rw [List.getElem?_append_left (by omega)] at hj
      exact hx j p hj
    · have hlt := (List.getElem?_eq_some_iff.1 hj).1
      rw [List.length_append, List.length_singleton, hl] at hlt
      obtain rfl : j = n := by omega
      rw [List.getElem?_append_right (by omega), hl, Nat.sub_self] at hj
      obtain rfl : y = p := by simpa using hj
      exact hy
theorem Opens.slice {α : Type} {P : Program} {t e : TypeId} {d : Kd α} {wf : α → Prop} (e' : Nat) (hu : P.underlying t = some (.slice e)) (hc : P.cellsOf e = d.sz) (he : Opens P e d wf) :
    Opens P t (Kd.slice e' d) (fun xs => xs.length ≤ 9223372036854775807 ∧ ∀ a ∈ xs, wf a) := by
  intro H enc w fuel cs x h
  rcases DataW.trod_slice hu h with ⟨rfl, _⟩ | ⟨a, len, cap, elems, rest, n, _, rfl, _, hb, hl, hm, hlen, hel, _, _⟩
  · exact ⟨[], ⟨none, 0, rfl, Nat.le_refl _, Kd.C_nil _ _⟩, by simp⟩
  · have each : ∀ i, i < len → ∃ y, wf y ∧ ∃ c, c.length = d.sz ∧ d.K w y c ∧ ∀ j u, c[j]? = some u → w.cell? (a.add (i * d.sz + j)) = some u := by
      intro i hi
      have h1 := hel i hi
      rw [List.getElem?_eq_getElem (by omega), hc, Option.bind_eq_some_iff] at h1
      obtain ⟨c, hcs, hy⟩ := h1
      obtain ⟨y, hK, hw⟩ := he _ _ _ _ _ _ hy
      refine ⟨y, hw, c, d.K_len hK, hK, fun j u hj => ?_⟩
      have h2 := World.cells?_some hcs
      rw [← Addr.add_add]
      have hjl := (List.getElem?_eq_some_iff.1 hj).1
      rw [← hj]
      exact (h2.2.2 j (by rw [← h2.2.1]; exact hjl))
    obtain ⟨xs, hxl, hxs⟩ := exists_list _ len each
    simp only [maxLen] at hm
    refine ⟨xs, ⟨some a, cap, by rw [hxl], by omega, rfl, by omega, fun _ => ⟨a, rfl, fun j p hj => ?_⟩⟩, by omega, fun y hy => ?_⟩
    · obtain ⟨_, c, hcl, hK, hcell⟩ := hxs j p hj
      exact ⟨c, hcl, hK, hcell⟩
    · obtain ⟨j, hj⟩ := List.getElem?_of_mem hy
      exact (hxs j y hj).1
def OpensF {α : Type} (P : Program) (fs : Array Field) (o : Nat) (d : Kd α) (wf : α → Prop) : Prop :=
  ∀ (H : Type) (enc : TypeId × Value → H) (w : World) (fuel : Nat) (cs : List Value) (xs : List (DataW H × List MemPlace)), cs.length = o + d.sz → xs.length = fs.size →
    (∀ (j : Nat) (f : Field), fs[j]? = some f → DataW.trod enc P w 0 (fun _ => true) true fuel f.type ((cs.drop f.offset).take (P.cellsOf f.type)) = xs[j]?) → ∃ a, d.K w a (cs.drop o) ∧ wf a
theorem OpensF.last {α : Type} {P : Program} {fs : Array Field} {o : Nat} {d : Kd α} {wf : α → Prop} (i : Nat) (f : Field) (hf : fs[i]? = some f) (ho : f.offset = o) (hc : P.cellsOf f.type = d.sz) (h : Opens P f.type d wf) : OpensF P fs o d wf := by
  intro H enc w fuel cs xs hl hx hall
  have h1 := hall i f hf
  have hi : i < xs.length := by rw [hx]; exact (Array.getElem?_eq_some_iff.1 hf).1
  rw [List.getElem?_eq_getElem hi, ho, hc, List.take_of_length_le (by rw [List.length_drop]; omega)] at h1
  exact h _ _ _ _ _ _ h1
theorem OpensF.cons {α β : Type} {P : Program} {fs : Array Field} {o : Nat} {d : Kd α} {d' : Kd β} {wf : α → Prop} {wf' : β → Prop} (i : Nat) (f : Field) (hf : fs[i]? = some f) (ho : f.offset = o) (hc : P.cellsOf f.type = d.sz) (h : Opens P f.type d wf)
    (h' : OpensF P fs (o + d.sz) d' wf') : OpensF P fs o (Kd.pair d d') (fun x => wf x.1 ∧ wf' x.2) := by
  intro H enc w fuel cs xs hl hx hall
  have h1 := hall i f hf
  have hi : i < xs.length := by rw [hx]; exact (Array.getElem?_eq_some_iff.1 hf).1
  rw [List.getElem?_eq_getElem hi, ho, hc] at h1
  obtain ⟨a, hK, hw⟩ := h _ _ _ _ _ _ h1
  have hl' : cs.length = o + (d.sz + d'.sz) := hl
  obtain ⟨b, hK', hw'⟩ := h' H enc w fuel cs xs (by omega) hx hall
  refine ⟨(a, b), ⟨_, _, ?_, hK, hK'⟩, hw, hw'⟩
  rw [← List.drop_drop, List.take_append_drop]
theorem Opens.struct {α β : Type} {P : Program} {t : TypeId} {fs : Array Field} {d : Kd α} {wf : α → Prop} (f : β → α) (g : α → β) (hfg : ∀ a, f (g a) = a) (hu : P.underlying t = some (.struct fs)) (hc : P.cellsOf t = d.sz) (h : OpensF P fs 0 d wf) :
    Opens P t (Kd.iso d f) (fun b => wf (f b)) := by
  intro H enc w fuel cs x hx
  obtain ⟨xs, n, _, _, hl, hxl, hall⟩ := DataW.trod_struct hu hx
  obtain ⟨a, hK, hw⟩ := h H enc w n cs xs (by omega) hxl hall
  refine ⟨g a, ?_, ?_⟩
  · show d.K w (f (g a)) cs
    rw [hfg]; exact hK
  · show wf (f (g a))
    rw [hfg]; exact hw
theorem Opens.param {α : Type} {P : Program} {t : TypeId} {d : Kd α} {wf : α → Prop} (h : Opens P t d wf) {H : Type} {enc : TypeId × Value → H} {w : World} {v : Value} {D : DataW H} {ps : List MemPlace} (hv : DataW.Trod enc P w 0 (fun _ => true) true t v D ps) :
    ∃ a, d.K w a v.cells.toList ∧ wf a := by
  obtain ⟨fuel, hf⟩ := hv
  exact h _ _ _ _ _ _ hf
theorem okWide_agg {P : Program} {W : World} {r : Reach} {base : Nat} {t : TypeId} {v : Value} {fs : Array Field} (hu : P.underlying t = some (.struct fs)) (h : Value.okWide P W r base t v) : ∃ cs : Array Value, v = .agg cs := by
  unfold Value.okWide at h
  rw [hu] at h
  obtain ⟨cs, rfl, _⟩ := h
  exact ⟨cs, rfl⟩
end Go.Proofs.YtmljebgideecjaaGreatZ

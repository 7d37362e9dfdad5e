/- A part of the proof of the law FnExactJudgeSo: texts of this seat, merged (words, printed functions of the program, plain lemmas). Conditions: none of its own. -/
import Derived.Test.YtmljebgideecjaaGreatP2kFnExactJudgeSo1
import Derived.Test.YtmljebgideecjaaGreatP2kFnExactJudgeSo4
import Derived.Test.YtmljebgideecjaaGreatP2kFnExactJudgeSo5
import Derived.Test.YtmljebgideecjaaGreatP2kFnExactJudgeSo6
import Derived.Test.YtmljebgideecjaaGreatP2kFnExactJudgeSo7
import Derived.Test.YtmljebgideecjaaGreatP2kFnExactJudgeSo8
set_option linter.unusedSimpArgs false
set_option linter.unusedVariables false
set_option maxHeartbeats 8000000
set_option maxRecDepth 100000
namespace Go.Proofs.YtmljebgideecjaaGreat.P2
open Go.Proofs.YtmljebgideecjaaGreatZ Go.RowKit Go.Proofs.YtmljebgideecjaaGreatW.PrintWords Go.Proofs.YtmljebgideecjaaGreatW.PrintLast Go.Proofs.YtmljebgideecjaaGreatW.PrintMore
attribute [local go_sem] max2_int min2_int max_two min_two max_three min_three max_four min_four   -- for this text's walks alone
def laws_toOpS.l0 : Nat → List (S116) → List (S69) → Int → Option ((List (S69)))
 | 0, _, _, _ => none
 | k + 1, x0, x3, x4 => if x4 < (x0.length : Int) then (if 0 ≤ x4 then ((laws_toOp.f ((rd_T116 x0 x4).f0) ((rd_T116 x0 x4).f1) ((rd_T116 x0 x4).f2)).bind fun bt105 => (if x4 < (x3.length : Int) then (laws_toOpS.l0 k x0 (x3.set (x4 : Int).toNat (⟨bt105.1, bt105.2.1, bt105.2.2⟩ : S69)) (wrap64 (x4 + 1))) else (none))) else (none)) else (some x3)
def laws_toOpS.f (k : Nat) (l0 : List (S116)) : Option ((List (S69))) := if 0 ≤ (l0.length : Int) then (if ((l0.length : Int) : Int).toNat ≤ 11728124029610 then (laws_toOpS.l0 k l0 (List.replicate ((l0.length : Int) : Int).toNat z69) 0) else (none)) else (none)
theorem laws_toOpS.calls (k : Nat) (A0 : Option Addr) (c0 : Nat) (l0 : List (S116)) (r : List (S69)) (w : World) (hr0 : Kd.C k116 w A0 l0.length l0) (hc0 : l0.length ≤ c0) (h : laws_toOpS.f k l0 = some r) :
  Calls Tryz.prog 66 #[.slice A0 l0.length c0] w fun e w' => ∃ v0_ : Value, e = .returned (v0_) ∧ Kd.R k69 69 w' w.heap.size (fun _ => True) v0_ r ∧ Below w.heap.size w w' := by
 have hu116 := Tryz.underlying116
 have hu69 := Tryz.underlying69
 have HR0 := aM hr0
 have HC0 := aM hc0
 clear hr0 hc0
 have HB := aM (Below.refl w.heap.size w)
 have H := h
 unfold laws_toOpS.f at H
 clear h
 replace H := ifP H; obtain ⟨c2, H⟩ := H
 have c2b0 := eq_true c2
 have c2b1 := decide_eq_true c2
 clear c2
 replace H := ifP H; obtain ⟨c3, H⟩ := H
 have c3b0 := eq_true c3
 have c3b1 := decide_eq_true c3
 clear c3
 obtain ⟨y101, hy101⟩ : ∃ y_ : List (S69), y_ = (List.replicate ((l0.length : Int) : Int).toNat z69) := ⟨_, rfl⟩
 replace H : (laws_toOpS.l0 k l0 y101 0) = some r := yH H hy101
 have Ny101 := aM hy101
 clear hy101
 have H' := aM H
 clear H
 go_enter Tryz.func66, Tryz.ntmps66
 go_wp2_with ((with_reducible refine gate_dst (N := 7) rfl ?_); refine Kd.R_make k69 _ 69 rfl (N := 7) rfl 93 _ _ rfl (l0.length : Int) rfl rfl Tryz.underlying93 (.agg #[(.int .i64 0), (.int .i64 0), (.int .i64 0)]) 24 info69 rfl (by decide) (by omega) z69 (ok := fun _ => True) (okp := fun _ => True) (k69_mkM _ _ _ z69 ) (fun _ hk => hk) trivial (odA) (Nat.le_trans (Nat.mul_le_mul_right _ (odA : (l0.length : Int).toNat ≤ 11728124029610)) (by omega)) (Below.refl _ _) (Nat.le_refl _) ?_; intro vz1 wz1 hoz1 hb hg_ hnew_; clear hg_ hnew_; (first | rw [← Ny101.out] at hoz1 | (simp only [Int.reduceToNat] at hoz1; rw [← Ny101.out] at hoz1)); have HOz1 := aM (Kd.R_lower hoz1 (below_size (hX HB.out))); replace HB := aS HB hb; clear hb hoz1)
 go_loopg [4] k (fun kq v4 w' => ∃ (x3_1 : List (S69)) (x4_1 : Int), v4 = .int .i64 x4_1 ∧ Aside0 (laws_toOpS.l0 kq l0 x3_1 x4_1 = some r) ∧ Aside0 (kq ≤ k) ∧ Aside0 (Kd.R k69 69 w' w.heap.size (fun _ => True) vz1 x3_1) ∧ Aside0 (Below w.heap.size w w'))
 case atStart => exact ⟨(y101), (0), rS, H', ⟨Nat.le_refl _⟩, ⟨(rX HOz1.out)⟩, ⟨(hX HB.out)⟩⟩
 case round =>
  clear H'
  try clear c2
  try clear c2b0
  try clear c2b1
  try clear c3
  try clear c3b0
  try clear c3b1
  obtain ⟨x3_1, x4_1, rfl, HA, HKy1, HO_y1, HB⟩ := hrel
  cases gk with
  | zero => exact absurd HA.out (by simp [laws_toOpS.l0])
  | succ k1 =>
   have H := HA.out
   clear HA
   simp only [laws_toOpS.l0] at H
   revert H; refine iN (fun c6b0 H => ?_) (fun c6b0 H => ?_)
   ·obtain rfl := sI H
    go_wp2
    go_ret
    exact ⟨_, rE, (rX HO_y1.out), (hX HB.out)⟩
   replace H := ifQ H; obtain ⟨c7b0, H⟩ := H
   replace H := bE H; obtain ⟨⟨t105, t106, t107⟩, A8, H⟩ := H
   try dsimp only at H
   replace H := ifQ H; obtain ⟨c9b0, H⟩ := H
   obtain ⟨y108, hy108⟩ : ∃ y_ : List (S69), y_ = (x3_1.set (x4_1 : Int).toNat (⟨t105, t106, t107⟩ : S69)) := ⟨_, rfl⟩
   replace H : (laws_toOpS.l0 k1 l0 y108 (wrap64 (x4_1 + 1))) = some r := yH H hy108
   have Ny108 := aM hy108
   clear hy108
   have H' := aM H
   clear H
   obtain ⟨adx1, ex1, px1, qx1, hxx1⟩ := at_T116c HR0 HB x4_1
   cases ex1
   go_wp2_with (first | (refine gB 126 20 Tryz.func126 (laws_toOp.calls _ _ _ _ _ _ _ A8.out) ?_; intro wx1 hb; replace HO_y1 := aQ HO_y1 hb; replace HB := aS HB hb; clear hb; have px2 : 0 ≤ (x4_1 : Int) := odA; have qx2 : (x4_1 : Int) < ((x3_1.length : Int) : Int) := odA; obtain ⟨gox1, cox1, eox1, gbx1, glx1, clx1, HGx1⟩ := Kd.R_form HO_y1.out (by omega); (first | cases eox1 | (injection eox1 with ea_ en_ ec_; (first | subst ea_ | (injection ea_ with ea_; subst ea_)); subst ec_; clear en_)); have GBx1 := aM gbx1; have GGx1 := aM HGx1; clear gbx1 glx1 HGx1; obtain ⟨cex1, hclx1, hMx1, hccx1, hfrx1⟩ := Kd.R_elem HO_y1.out z69 (x4_1 : Int) px2 qx2; obtain rfl := k69_openM hMx1; have hxx4 : wx1.cell? ⟨gox1, (x4_1 : Int).toNat * 3, none⟩ = some (.int .i64 ((rd_T69 x3_1 x4_1).f0)) := hccx1 0 _ rfl; have hxx5 : wx1.cell? ⟨gox1, (x4_1 : Int).toNat * 3 + 1, none⟩ = some (.int .i64 ((rd_T69 x3_1 x4_1).f1)) := hccx1 1 _ rfl; have hxx6 : wx1.cell? ⟨gox1, (x4_1 : Int).toNat * 3 + 2, none⟩ = some (.int .i64 ((rd_T69 x3_1 x4_1).f2)) := hccx1 2 _ rfl; have hfx1 : wx1.frozen? ⟨gox1, (x4_1 : Int).toNat * 3, none⟩ = false := hfrx1 0; have hfx2 : wx1.frozen? ⟨gox1, (x4_1 : Int).toNat * 3 + 1, none⟩ = false := hfrx1 1; have hfx3 : wx1.frozen? ⟨gox1, (x4_1 : Int).toNat * 3 + 2, none⟩ = false := hfrx1 2; clear hclx1 hccx1 hfrx1 hMx1; replace px2 := eq_true px2; replace qx2 := eq_true qx2; have HXx1 := aM (show Kd.R k69 69 wx1 w.heap.size (fun _ => True) (.slice (some ⟨gox1, 0, none⟩) x3_1.length cox1) x3_1 from (rX HO_y1.out)); obtain ⟨cex2, hclx2, hMx2, hccx2, hfrx2⟩ := Kd.R_elem HXx1.out z69 (x4_1 : Int) (odA) (by have h_ : (x4_1 : Int) < ((x3_1.length : Int) : Int) := odA; first | exact h_ | (have e_ := (Kd.R_reads' HO_y1.out).1; omega) | simpa using h_); obtain rfl := k69_openM hMx2; have HPx1 := Kd.R_seg HXx1.out (x4_1 : Int) (odA) (by have h_ : (x4_1 : Int) < ((x3_1.length : Int) : Int) := odA; first | exact h_ | (have e_ := (Kd.R_reads' HO_y1.out).1; omega) | simpa using h_) (seg := [.int .i64 t105, .int .i64 t106, .int .i64 t107]) (j := 0) hclx2 hccx2 (show 3 ≤ 3 from by decide) (x' := (⟨t105, t106, t107⟩ : S69)) (k69_mkM _ _ _ (⟨t105, t106, t107⟩ : S69) ) (fun _ hk => hk); have hxx7 := hccx2 0 _ rfl; (try simp only [show (k69).sz = 3 from rfl, Nat.mul_one, Nat.add_zero] at hxx7); have hfx4 := hfrx2 0; (try simp only [show (k69).sz = 3 from rfl, Nat.mul_one, Nat.add_zero] at hfx4); have hxx8 := hccx2 1 _ rfl; (try simp only [show (k69).sz = 3 from rfl, Nat.mul_one, Nat.add_zero] at hxx8); have hfx5 := hfrx2 1; (try simp only [show (k69).sz = 3 from rfl, Nat.mul_one, Nat.add_zero] at hfx5); have hxx9 := hccx2 2 _ rfl; (try simp only [show (k69).sz = 3 from rfl, Nat.mul_one, Nat.add_zero] at hxx9); have hfx6 := hfrx2 2; (try simp only [show (k69).sz = 3 from rfl, Nat.mul_one, Nat.add_zero] at hfx6); clear hclx2 hccx2 hfrx2 hMx2) | ((with_reducible refine gate_store (t := 69) (p := 21) rfl ?_); refine store_event (t := 69) (p := 21) (v := ?vo_wx2) (w1 := (((wx1.setCell ⟨gox1, (x4_1 : Int).toNat * 3, none⟩ (.int .i64 t105)).setCell ⟨gox1, (x4_1 : Int).toNat * 3 + 1, none⟩ (.int .i64 t106)).setCell ⟨gox1, (x4_1 : Int).toNat * 3 + 2, none⟩ (.int .i64 t107))) ?hg ?ho ?hn ?hr ?_; (case ho => rfl); (case hg => rfl); (case hn => rfl); (case hr => first | (go_simp; done) | (go_simp; rfl)); intro wx2 hw; have hg : wx1.grownBy wx2 (some gox1) := (by rw [hw]; exact HPx1.2); have hp_ : Kd.R k69 69 wx2 w.heap.size (fun _ => True) (.slice (some ⟨gox1, 0, none⟩) x3_1.length cox1) y108 := (by rw [hw, Ny108.out]; exact HPx1.1); clear HPx1; replace HO_y1 := aM (hp_); replace HB := aM ((by rw [hw]; exact below_set (below_set (below_set (HB.out) GBx1.out) GBx1.out) GBx1.out : Below w.heap.size w wx2)); clear hg hw hp_))
   go_roundg k1
   case measure => have := HKy1.out; omega
   case rel => exact ⟨(y108), (wrap64 (x4_1 + 1)), rS, H', ⟨by have := HKy1.out; omega⟩, ⟨(rX HO_y1.out)⟩, ⟨(hX HB.out)⟩⟩
def laws_toThread.f (k : Nat) (l0_0 : List (S116)) (a0_1 : Int) (a0_2 : Bool) (l0_3 : List (S204)) (l0_4 : List (S206)) : Option ((List (S69)) × Int × Bool × (List (S172)) × (List (S174))) := (laws_toOpS.f k l0_0).bind fun t104 => ((laws_toPairS.f k l0_3).bind fun t107 => ((laws_toHelpS.f k l0_4).bind fun t110 => (some (t104, a0_1, a0_2, t107, t110))))
theorem laws_toThread.calls (k : Nat) (A0_0 : Option Addr) (c0_0 : Nat) (l0_0 : List (S116)) (a0_1 : Int) (a0_2 : Bool) (A0_3 : Option Addr) (c0_3 : Nat) (l0_3 : List (S204)) (A0_4 : Option Addr) (c0_4 : Nat) (l0_4 : List (S206)) (r1 : List (S69)) (r2 : Int) (r3 : Bool) (r4 : List (S172)) (r5 : List (S174)) (w : World) (hr0_0 : Kd.C k116 w A0_0 l0_0.length l0_0) (hc0_0 : l0_0.length ≤ c0_0) (hr0_3 : Kd.C k204 w A0_3 l0_3.length l0_3) (hc0_3 : l0_3.length ≤ c0_3) (hr0_4 : Kd.C k206 w A0_4 l0_4.length l0_4) (hc0_4 : l0_4.length ≤ c0_4) (h : laws_toThread.f k l0_0 a0_1 a0_2 l0_3 l0_4 = some (r1, r2, r3, r4, r5)) :
  Calls Tryz.prog 99 #[.agg #[.slice A0_0 l0_0.length c0_0, .int .i64 a0_1, .bool a0_2, .slice A0_3 l0_3.length c0_3, .slice A0_4 l0_4.length c0_4]] w fun e w' => ∃ v0_ v3_ v4_ : Value, e = .returned (.agg #[v0_, .int .i64 r2, .bool r3, v3_, v4_]) ∧ Kd.R k69 69 w' w.heap.size (fun _ => True) v0_ r1 ∧ Kd.R k172 172 w' w.heap.size (fun _ => True) v3_ r4 ∧ Kd.R k174 174 w' w.heap.size (fun _ => True) v4_ r5 ∧ Below w.heap.size w w' := by
 have hu114 := Tryz.underlying114
 have hu97 := Tryz.underlying97
 have HR0_0 := aM hr0_0
 have HC0_0 := aM hc0_0
 clear hr0_0 hc0_0
 have HR0_3 := aM hr0_3
 have HC0_3 := aM hc0_3
 clear hr0_3 hc0_3
 have HR0_4 := aM hr0_4
 have HC0_4 := aM hc0_4
 clear hr0_4 hc0_4
 have HB := aM (Below.refl w.heap.size w)
 have H := h
 unfold laws_toThread.f at H
 clear h
 replace H := bE H; obtain ⟨t104, A2, H⟩ := H
 replace H := bE H; obtain ⟨t107, A3, H⟩ := H
 replace H := bE H; obtain ⟨t110, A4, H⟩ := H
 simp only [Option.some.injEq, Prod.mk.injEq] at H
 obtain ⟨rfl, rfl, rfl, rfl, rfl⟩ := H
 go_enter Tryz.func99, Tryz.ntmps99
 go_wp2_with (first | (refine boxE 1 #[.slice A0_0 l0_0.length c0_0, .int .i64 a0_1, .bool a0_2, .slice A0_3 l0_3.length c0_3, .slice A0_4 l0_4.length c0_4] 114 ?_; intro gbz1 hg wz1 hbox hb; have BKz1 := aM (hbox); have GWz1 := aG hg HB; have GEz1 := aG hg HB; replace HB := aS HB hb; clear hb hbox hg) | (refine boxE 2 #[.slice none 0 0, .int .i64 0, .bool false, .slice none 0 0, .slice none 0 0] 97 ?_; intro gbz2 hg wz2 hbox hb; have BKz2 := aM (hbox); have GWz2 := aG hg HB; have GEz2 := aG hg HB; have NBz1 := aL hg BKz1; have NBz2 := aR hg BKz1; replace BKz1 := aB BKz1 hb; replace HB := aS HB hb; clear hb hbox hg) | (refine boxE 3 #[.slice none 0 0, .int .i64 0, .bool false, .slice none 0 0, .slice none 0 0] 97 ?_; intro gbz3 hg wz3 hbox hb; have BKz3 := aM (hbox); have GWz3 := aG hg HB; have GEz3 := aG hg HB; have NBz3 := aL hg BKz1; have NBz4 := aR hg BKz1; have NBz5 := aL hg BKz2; have NBz6 := aR hg BKz2; replace BKz1 := aB BKz1 hb; replace BKz2 := aB BKz2 hb; replace HB := aS HB hb; clear hb hbox hg; have hnbz1 := NBz1.out; have hncz1 := NBz2.out; have hnbz2 := NBz3.out; have hncz2 := NBz4.out; have hczz1 := cZ5 BKz1.out) | (refine goesM 66 6 Tryz.func66 #[.slice A0_0 l0_0.length c0_0] ?_; refine (laws_toOpS.calls _ _ _ _ _ _ (cC HR0_0.out HB.out) HC0_0.out A2.out).mono ?_; rintro e wz4 ⟨vz1, rfl, hoz1, hb⟩; refine ⟨_, rfl, ?_⟩; have HOz1 := aM (Kd.R_lower hoz1 (below_size (hX HB.out))); replace BKz1 := aB BKz1 hb; replace BKz2 := aB BKz2 hb; replace BKz3 := aB BKz3 hb; replace HB := aS HB hb; clear hb hoz1; obtain ⟨Aoz1, coz1, eoz1⟩ := Kd.R_slice HOz1.out; subst eoz1; have hnbz3 := NBz6.out; have hncz3 := NBz5.out; have hczz6 := cZ5 BKz3.out; have hczz11 := cZ5 BKz1.out) | (refine goesM 166 16 Tryz.func166 #[.slice A0_3 l0_3.length c0_3] ?_; refine (laws_toPairS.calls _ _ _ _ _ _ (by exact Kd.C_below HR0_3.out (hX HB.out)) HC0_3.out A3.out).mono ?_; rintro e wz5 ⟨vz2, rfl, hoz1, hb⟩; refine ⟨_, rfl, ?_⟩; have HOz2 := aM (Kd.R_lower hoz1 (below_size (hX HB.out))); replace HOz1 := aM (Kd.R_below (rF HOz1.out BKz3.out) hb); replace BKz1 := aF BKz1 hb; replace BKz2 := aF BKz2 hb; replace BKz3 := aM (blk_below (g := gbz3) (o := .cells #[.slice Aoz1 t104.length coz1, .int .i64 a0_1, .bool a0_2, .slice none 0 0, .slice none 0 0] 97 (0, 0)) (bP BKz3.out) hb); replace HB := aS HB hb; clear hb hoz1; obtain ⟨Aoz2, coz2, eoz2⟩ := Kd.R_slice HOz2.out; subst eoz2; have hczz16 := cZ5 BKz3.out; have hczz21 := cZ5 BKz1.out) | (refine goesM 167 20 Tryz.func167 #[.slice A0_4 l0_4.length c0_4] ?_; refine (laws_toHelpS.calls _ _ _ _ _ _ (by exact Kd.C_below HR0_4.out (hX HB.out)) HC0_4.out A4.out).mono ?_; rintro e wz6 ⟨vz3, rfl, hoz1, hb⟩; refine ⟨_, rfl, ?_⟩; have HOz3 := aM (Kd.R_lower hoz1 (below_size (hX HB.out))); replace HOz1 := aM (Kd.R_below (rF HOz1.out BKz3.out) hb); replace HOz2 := aM (Kd.R_below (rF HOz2.out BKz3.out) hb); replace BKz1 := aF BKz1 hb; replace BKz2 := aF BKz2 hb; replace BKz3 := aM (blk_below (g := gbz3) (o := .cells #[.slice Aoz1 t104.length coz1, .int .i64 a0_1, .bool a0_2, .slice Aoz2 t107.length coz2, .slice none 0 0] 97 (0, 0)) (bP BKz3.out) hb); replace HB := aS HB hb; clear hb hoz1; obtain ⟨Aoz3, coz3, eoz3⟩ := Kd.R_slice HOz3.out; subst eoz3; have hczz26 := cZ5 BKz3.out; have hczz31 := cZ5 BKz2.out))
 refine bodyPost_ret (results_cell_row rfl _ _ gbz2 97 #[.slice Aoz1 t104.length coz1, .int .i64 a0_1, .bool a0_2, .slice Aoz2 t107.length coz2, .slice Aoz3 t110.length coz3] (0, 0) _ rfl (bP BKz2.out) Tryz.underlying97 rfl (by kernel_rfl)) rfl ?_
 exact ⟨_, _, _, rE, (rT (h := by exact Kd.R_mono (Kd.R_far (p := ⟨gbz2, 4, none⟩) (Kd.R_far (p := ⟨gbz2, 3, none⟩) (Kd.R_far (p := ⟨gbz2, 2, none⟩) (Kd.R_far (p := ⟨gbz2, 1, none⟩) (Kd.R_far (p := ⟨gbz2, 0, none⟩) (Kd.R_far (p := ⟨gbz3, 4, none⟩) (Kd.R_types (Kd.R_types HOz1.out BKz3.out (by decide)) BKz2.out (by decide)) (fun _ hk => hk.1.2) (.slice Aoz3 t110.length coz3)) (fun _ hk => hk.2) (.slice Aoz1 t104.length coz1)) (fun _ hk => hk.2) (.int .i64 a0_1)) (fun _ hk => hk.2) (.bool a0_2)) (fun _ hk => hk.2) (.slice Aoz2 t107.length coz2)) (fun _ hk => hk.2) (.slice Aoz3 t110.length coz3)) (fun _ hk => trivial))), (rT (h := by exact Kd.R_mono (Kd.R_far (p := ⟨gbz2, 4, none⟩) (Kd.R_far (p := ⟨gbz2, 3, none⟩) (Kd.R_far (p := ⟨gbz2, 2, none⟩) (Kd.R_far (p := ⟨gbz2, 1, none⟩) (Kd.R_far (p := ⟨gbz2, 0, none⟩) (Kd.R_far (p := ⟨gbz3, 4, none⟩) (Kd.R_types (Kd.R_types HOz2.out BKz3.out (by decide)) BKz2.out (by decide)) (fun _ hk => hk.1.2) (.slice Aoz3 t110.length coz3)) (fun _ hk => hk.2) (.slice Aoz1 t104.length coz1)) (fun _ hk => hk.2) (.int .i64 a0_1)) (fun _ hk => hk.2) (.bool a0_2)) (fun _ hk => hk.2) (.slice Aoz2 t107.length coz2)) (fun _ hk => hk.2) (.slice Aoz3 t110.length coz3)) (fun _ hk => trivial))), (rT (h := by exact Kd.R_mono (Kd.R_far (p := ⟨gbz2, 4, none⟩) (Kd.R_far (p := ⟨gbz2, 3, none⟩) (Kd.R_far (p := ⟨gbz2, 2, none⟩) (Kd.R_far (p := ⟨gbz2, 1, none⟩) (Kd.R_far (p := ⟨gbz2, 0, none⟩) (Kd.R_far (p := ⟨gbz3, 4, none⟩) (Kd.R_types (Kd.R_types HOz3.out BKz3.out (by decide)) BKz2.out (by decide)) (fun _ hk => hk.1.2) (.slice Aoz3 t110.length coz3)) (fun _ hk => hk.2) (.slice Aoz1 t104.length coz1)) (fun _ hk => hk.2) (.int .i64 a0_1)) (fun _ hk => hk.2) (.bool a0_2)) (fun _ hk => hk.2) (.slice Aoz2 t107.length coz2)) (fun _ hk => hk.2) (.slice Aoz3 t110.length coz3)) (fun _ hk => trivial))), (hX HB.out)⟩
def laws_toThreadS.l0 : Nat → List (S114) → List (S97) → Int → Option ((List (S97)))
 | 0, _, _, _ => none
 | k + 1, x0, x3, x4 => if x4 < (x0.length : Int) then (if 0 ≤ x4 then ((laws_toThread.f k ((rd_T114 x0 x4).f0) ((rd_T114 x0 x4).f1) ((rd_T114 x0 x4).f2) ((rd_T114 x0 x4).f3) ((rd_T114 x0 x4).f4)).bind fun bt105 => (if x4 < (x3.length : Int) then (laws_toThreadS.l0 k x0 (x3.set (x4 : Int).toNat (⟨bt105.1, bt105.2.1, bt105.2.2.1, bt105.2.2.2.1, bt105.2.2.2.2⟩ : S97)) (wrap64 (x4 + 1))) else (none))) else (none)) else (some x3)
def laws_toThreadS.f (k : Nat) (l0 : List (S114)) : Option ((List (S97))) := if 0 ≤ (l0.length : Int) then (if ((l0.length : Int) : Int).toNat ≤ 3198579280802 then (laws_toThreadS.l0 k l0 (List.replicate ((l0.length : Int) : Int).toNat z97) 0) else (none)) else (none)
theorem laws_toThreadS.calls (k : Nat) (A0 : Option Addr) (c0 : Nat) (l0 : List (S114)) (r : List (S97)) (w : World) (hr0 : Kd.C k114 w A0 l0.length l0) (hc0 : l0.length ≤ c0) (h : laws_toThreadS.f k l0 = some r) :
  Calls Tryz.prog 45 #[.slice A0 l0.length c0] w fun e w' => ∃ v0_ : Value, e = .returned (v0_) ∧ Kd.S k97 97 w' w.heap.size (fun _ => True) v0_ r ∧ Below w.heap.size w w' := by
 have hu114 := Tryz.underlying114
 have hu97 := Tryz.underlying97
 have HR0 := aM hr0
 have HC0 := aM hc0
 clear hr0 hc0
 have HB := aM (Below.refl w.heap.size w)
 have H := h
 unfold laws_toThreadS.f at H
 clear h
 replace H := ifP H; obtain ⟨c2, H⟩ := H
 have c2b0 := eq_true c2
 have c2b1 := decide_eq_true c2
 clear c2
 replace H := ifP H; obtain ⟨c3, H⟩ := H
 have c3b0 := eq_true c3
 have c3b1 := decide_eq_true c3
 clear c3
 obtain ⟨y101, hy101⟩ : ∃ y_ : List (S97), y_ = (List.replicate ((l0.length : Int) : Int).toNat z97) := ⟨_, rfl⟩
 replace H : (laws_toThreadS.l0 k l0 y101 0) = some r := yH H hy101
 have Ny101 := aM hy101
 clear hy101
 have H' := aM H
 clear H
 go_enter Tryz.func45, Tryz.ntmps45
 go_wp2_with ((with_reducible refine gate_dst (N := 7) rfl ?_); refine Kd.S_make k97 _ 97 rfl (N := 7) rfl 39 _ _ rfl (l0.length : Int) rfl rfl Tryz.underlying39 (.agg #[(.slice none 0 0), (.int .i64 0), (.bool false), (.slice none 0 0), (.slice none 0 0)]) 88 info97 rfl (by decide) (by omega) z97 (ok := fun _ => True) (okp := fun _ => True) (k97_mkM _ _ _ z97 (Kd.R_nil _ _ _ _ _) (Kd.R_nil _ _ _ _ _) (Kd.R_nil _ _ _ _ _)) (fun _ hk => hk) trivial (odA) (Nat.le_trans (Nat.mul_le_mul_right _ (odA : (l0.length : Int).toNat ≤ 3198579280802)) (by omega)) (Below.refl _ _) (Nat.le_refl _) ?_; intro vz1 wz1 hoz1 hb hg_ hnew_; clear hg_ hnew_; (first | rw [← Ny101.out] at hoz1 | (simp only [Int.reduceToNat] at hoz1; rw [← Ny101.out] at hoz1)); have HOz1 := aM (Kd.S_lower hoz1 (below_size (hX HB.out))); replace HB := aS HB hb; clear hb hoz1)
 go_loopg [4] k (fun kq v4 w' => ∃ (x3_1 : List (S97)) (x4_1 : Int), v4 = .int .i64 x4_1 ∧ Aside0 (laws_toThreadS.l0 kq l0 x3_1 x4_1 = some r) ∧ Aside0 (kq ≤ k) ∧ Aside0 (Kd.S k97 97 w' w.heap.size (fun _ => True) vz1 x3_1) ∧ Aside0 (Below w.heap.size w w'))
 case atStart => exact ⟨(y101), (0), rS, H', ⟨Nat.le_refl _⟩, ⟨(sX HOz1.out)⟩, ⟨(hX HB.out)⟩⟩
 case round =>
  clear H'
  try clear c2
  try clear c2b0
  try clear c2b1
  try clear c3
  try clear c3b0
  try clear c3b1
  obtain ⟨x3_1, x4_1, rfl, HA, HKy1, HO_y1, HB⟩ := hrel
  cases gk with
  | zero => exact absurd HA.out (by simp [laws_toThreadS.l0])
  | succ k1 =>
   have H := HA.out
   clear HA
   simp only [laws_toThreadS.l0] at H
   revert H; refine iN (fun c6b0 H => ?_) (fun c6b0 H => ?_)
   ·obtain rfl := sI H
    go_wp2
    go_ret
    exact ⟨_, rE, (sX HO_y1.out), (hX HB.out)⟩
   replace H := ifQ H; obtain ⟨c7b0, H⟩ := H
   replace H := bE H; obtain ⟨⟨t105, t108, t109, t110, t113⟩, A8, H⟩ := H
   try dsimp only at H
   replace H := ifQ H; obtain ⟨c9b0, H⟩ := H
   obtain ⟨y116, hy116⟩ : ∃ y_ : List (S97), y_ = (x3_1.set (x4_1 : Int).toNat (⟨t105, t108, t109, t110, t113⟩ : S97)) := ⟨_, rfl⟩
   replace H : (laws_toThreadS.l0 k1 l0 y116 (wrap64 (x4_1 + 1))) = some r := yH H hy116
   have Ny116 := aM hy116
   clear hy116
   have H' := aM H
   clear H
   obtain ⟨adx1, Ax1, cx1, Ax2, cx2, Ax3, cx3, ex1, px1, qx1, hxx1, HCx1, HRx1, HCx2, HRx2, HCx3, HRx3⟩ := at_T114c HR0 HB x4_1
   cases ex1
   go_wp2_with (first | (refine goesM 99 20 Tryz.func99 #[.agg #[.slice Ax1 ((rd_T114 l0 x4_1).f0).length cx1, .int .i64 ((rd_T114 l0 x4_1).f1), .bool ((rd_T114 l0 x4_1).f2), .slice Ax2 ((rd_T114 l0 x4_1).f3).length cx2, .slice Ax3 ((rd_T114 l0 x4_1).f4).length cx3]] ?_; refine (laws_toThread.calls _ _ _ _ _ _ _ _ _ _ _ _ _ _ _ _ _ _ (cC HRx1.out HB.out) HCx1.out (cC HRx2.out HB.out) HCx2.out (cC HRx3.out HB.out) HCx3.out A8.out).mono ?_; rintro e wx1 ⟨vx1, vx2, vx3, rfl, hox1, hox2, hox3, hb⟩; refine ⟨_, rfl, ?_⟩; have HOx1 := aM (Kd.R_lower hox1 (below_size (hX HB.out))); have HOx2 := aM (Kd.R_lower hox2 (below_size (hX HB.out))); have HOx3 := aM (Kd.R_lower hox3 (below_size (hX HB.out))); replace HO_y1 := aM (Kd.S_mono (Kd.S_told (Kd.S_told (Kd.S_told (Kd.S_old (sX HO_y1.out) hb) (Kd.R_base hox1)) (Kd.R_base hox2)) (Kd.R_base hox3)) (fun _ h_ => h_.1)); replace HB := aS HB hb; clear hb hox1 hox2 hox3; have px2 : 0 ≤ (x4_1 : Int) := odA; have qx2 : (x4_1 : Int) < ((x3_1.length : Int) : Int) := odA; obtain ⟨gox1, cox1, eox1, gbx1, glx1, clx1, HGx1⟩ := Kd.S_form HO_y1.out (by omega); (first | cases eox1 | (injection eox1 with ea_ en_ ec_; (first | subst ea_ | (injection ea_ with ea_; subst ea_)); subst ec_; clear en_)); have GBx1 := aM gbx1; have GGx1 := aM HGx1; clear gbx1 glx1 HGx1; obtain ⟨_, cex1, hclx1, hMx1, hccx1, hfrx1, _, _⟩ := Kd.S_elem HO_y1.out z97 (x4_1 : Int) px2 qx2; obtain ⟨vex1, vex2, vex3, rfl, gex1, gex2, gex3⟩ := k97_openM hMx1; have hxx6 : wx1.cell? ⟨gox1, (x4_1 : Int).toNat * 5, none⟩ = some (vex1) := hccx1 0 _ rfl; have hxx7 : wx1.cell? ⟨gox1, (x4_1 : Int).toNat * 5 + 1, none⟩ = some (.int .i64 ((rd_T97 x3_1 x4_1).f1)) := hccx1 1 _ rfl; have hxx8 : wx1.cell? ⟨gox1, (x4_1 : Int).toNat * 5 + 2, none⟩ = some (.bool ((rd_T97 x3_1 x4_1).f2)) := hccx1 2 _ rfl; have hxx9 : wx1.cell? ⟨gox1, (x4_1 : Int).toNat * 5 + 3, none⟩ = some (vex2) := hccx1 3 _ rfl; have hxx10 : wx1.cell? ⟨gox1, (x4_1 : Int).toNat * 5 + 4, none⟩ = some (vex3) := hccx1 4 _ rfl; have hfx1 : wx1.frozen? ⟨gox1, (x4_1 : Int).toNat * 5, none⟩ = false := hfrx1 0; have hfx2 : wx1.frozen? ⟨gox1, (x4_1 : Int).toNat * 5 + 1, none⟩ = false := hfrx1 1; have hfx3 : wx1.frozen? ⟨gox1, (x4_1 : Int).toNat * 5 + 2, none⟩ = false := hfrx1 2; have hfx4 : wx1.frozen? ⟨gox1, (x4_1 : Int).toNat * 5 + 3, none⟩ = false := hfrx1 3; have hfx5 : wx1.frozen? ⟨gox1, (x4_1 : Int).toNat * 5 + 4, none⟩ = false := hfrx1 4; clear hclx1 hccx1 hfrx1 hMx1; replace px2 := eq_true px2; replace qx2 := eq_true qx2; obtain ⟨Aox1, cox2, eox2⟩ := Kd.R_slice HOx1.out; subst eox2; obtain ⟨Aox2, cox3, eox3⟩ := Kd.R_slice HOx2.out; subst eox3; obtain ⟨Aox3, cox4, eox4⟩ := Kd.R_slice HOx3.out; subst eox4; have n_ := aM (Kd.S_mono (ok' := (fun k_ => some k_ ≠ (.slice Aox1 t105.length cox2 : Value).ownBlock ∧ some k_ ≠ (.slice Aox2 t110.length cox3 : Value).ownBlock ∧ some k_ ≠ (.slice Aox3 t113.length cox4 : Value).ownBlock)) HO_y1.out (fun k_ hk => ⟨hk.1.1.2, ⟨hk.1.2, hk.2⟩⟩)); clear HO_y1; have HO_y1 := n_; clear n_; have HXx1 := aM (show Kd.S k97 97 wx1 w.heap.size (fun k_ => ((fun _ => True)) k_ ∧ ¬ ((fun k_ => some k_ = (.slice Aox1 t105.length cox2 : Value).ownBlock ∨ some k_ = (.slice Aox2 t110.length cox3 : Value).ownBlock ∨ some k_ = (.slice Aox3 t113.length cox4 : Value).ownBlock)) k_) (.slice (some ⟨gox1, 0, none⟩) x3_1.length cox1) x3_1 from (by (with_reducible repeat (first | apply Kd.S_alloc | apply Kd.S_drewN | apply Kd.S_drew)); exact Kd.S_mono HO_y1.out (fun k_ hk => ⟨trivial, fun e_ => e_.elim (fun h_ => hk.1 h_) (fun h_ => h_.elim (fun h_ => hk.2.1 h_) (fun h_ => hk.2.2 h_))⟩))); obtain ⟨okix1, cex2, hclx2, hMx2, hccx2, hfrx2, hokix1, hHx1⟩ := Kd.S_elem HXx1.out z97 (x4_1 : Int) (odA) (by have h_ : (x4_1 : Int) < ((x3_1.length : Int) : Int) := odA; first | exact h_ | (have e_ := (Kd.S_reads' HO_y1.out).1; omega) | simpa using h_); obtain ⟨vex4, vex5, vex6, rfl, gex4, gex5, gex6⟩ := k97_openM hMx2; have HPx1 := Kd.S_seg hHx1 (odA) (by have h_ : (x4_1 : Int) < ((x3_1.length : Int) : Int) := odA; first | exact h_ | (have e_ := (Kd.S_reads' HO_y1.out).1; omega) | simpa using h_) (seg := [.slice Aox1 t105.length cox2, .int .i64 t108, .bool t109, .slice Aox2 t110.length cox3, .slice Aox3 t113.length cox4]) (j := 0) (show 5 ≤ 5 from by decide) (x' := (⟨t105, t108, t109, t110, t113⟩ : S97)) (k97_mkM _ _ _ (⟨t105, t108, t109, t110, t113⟩ : S97) (Kd.R_mono (Kd.R_tight rfl (Kd.R_mono (ok' := fun k_ => ((fun _ => True)) k_ ∧ k_ ≠ gox1) (Kd.R_apart' (HOx1.out) (Kd.S_typed HO_y1.out) (by decide)) (fun k_ hk => ⟨trivial, fun e_ => (hk.2) (by rw [e_]; rfl)⟩))) (fun _ h_ => Or.inr (Or.inl h_))) (Kd.R_mono (Kd.R_tight rfl (Kd.R_mono (ok' := fun k_ => ((fun _ => True)) k_ ∧ k_ ≠ gox1) (Kd.R_apart' (HOx2.out) (Kd.S_typed HO_y1.out) (by decide)) (fun k_ hk => ⟨trivial, fun e_ => (hk.2) (by rw [e_]; rfl)⟩))) (fun _ h_ => Or.inr (Or.inr (Or.inl h_)))) (Kd.R_mono (Kd.R_tight rfl (Kd.R_mono (ok' := fun k_ => ((fun _ => True)) k_ ∧ k_ ≠ gox1) (Kd.R_apart' (HOx3.out) (Kd.S_typed HO_y1.out) (by decide)) (fun k_ hk => ⟨trivial, fun e_ => (hk.2) (by rw [e_]; rfl)⟩))) (fun _ h_ => Or.inr (Or.inr (Or.inr (h_)))))) (fun _ hk => hk) (fun k_ hk_ => hk_.elim (fun h_ => ((Kd.R_mono (ok' := fun k_ => ((fun _ => True)) k_ ∧ k_ ≠ gox1) (Kd.R_apart' (HOx1.out) (Kd.S_typed HO_y1.out) (by decide)) (fun k_ hk => ⟨trivial, fun e_ => (hk.2) (by rw [e_]; rfl)⟩))).1 k_ h_.symm) (fun h_ => h_.elim (fun h_ => ((Kd.R_mono (ok' := fun k_ => ((fun _ => True)) k_ ∧ k_ ≠ gox1) (Kd.R_apart' (HOx2.out) (Kd.S_typed HO_y1.out) (by decide)) (fun k_ hk => ⟨trivial, fun e_ => (hk.2) (by rw [e_]; rfl)⟩))).1 k_ h_.symm) (fun h_ => ((Kd.R_mono (ok' := fun k_ => ((fun _ => True)) k_ ∧ k_ ≠ gox1) (Kd.R_apart' (HOx3.out) (Kd.S_typed HO_y1.out) (by decide)) (fun k_ hk => ⟨trivial, fun e_ => (hk.2) (by rw [e_]; rfl)⟩))).1 k_ h_.symm))); have hxx11 := hccx2 0 _ rfl; (try simp only [show (k97).sz = 5 from rfl, Nat.mul_one, Nat.add_zero] at hxx11); have hfx6 := hfrx2 0; (try simp only [show (k97).sz = 5 from rfl, Nat.mul_one, Nat.add_zero] at hfx6); have hxx12 := hccx2 1 _ rfl; (try simp only [show (k97).sz = 5 from rfl, Nat.mul_one, Nat.add_zero] at hxx12); have hfx7 := hfrx2 1; (try simp only [show (k97).sz = 5 from rfl, Nat.mul_one, Nat.add_zero] at hfx7); have hxx13 := hccx2 2 _ rfl; (try simp only [show (k97).sz = 5 from rfl, Nat.mul_one, Nat.add_zero] at hxx13); have hfx8 := hfrx2 2; (try simp only [show (k97).sz = 5 from rfl, Nat.mul_one, Nat.add_zero] at hfx8); have hxx14 := hccx2 3 _ rfl; (try simp only [show (k97).sz = 5 from rfl, Nat.mul_one, Nat.add_zero] at hxx14); have hfx9 := hfrx2 3; (try simp only [show (k97).sz = 5 from rfl, Nat.mul_one, Nat.add_zero] at hfx9); have hxx15 := hccx2 4 _ rfl; (try simp only [show (k97).sz = 5 from rfl, Nat.mul_one, Nat.add_zero] at hxx15); have hfx10 := hfrx2 4; (try simp only [show (k97).sz = 5 from rfl, Nat.mul_one, Nat.add_zero] at hfx10); clear hclx2 hccx2 hfrx2 hMx2 hokix1 hHx1) | ((with_reducible refine gate_store (t := 97) (p := 21) rfl ?_); refine store_event (t := 97) (p := 21) (v := ?vo_wx2) (w1 := (((((wx1.setCell ⟨gox1, (x4_1 : Int).toNat * 5, none⟩ (.slice Aox1 t105.length cox2)).setCell ⟨gox1, (x4_1 : Int).toNat * 5 + 1, none⟩ (.int .i64 t108)).setCell ⟨gox1, (x4_1 : Int).toNat * 5 + 2, none⟩ (.bool t109)).setCell ⟨gox1, (x4_1 : Int).toNat * 5 + 3, none⟩ (.slice Aox2 t110.length cox3)).setCell ⟨gox1, (x4_1 : Int).toNat * 5 + 4, none⟩ (.slice Aox3 t113.length cox4))) ?hg ?ho ?hn ?hr ?_; (case ho => rfl); (case hg => rfl); (case hn => rfl); (case hr => first | (go_simp; done) | (go_simp; rfl)); intro wx2 hw; have hg : wx1.grownBy wx2 (some gox1) := (by rw [hw]; exact HPx1.2); have hp_ : Kd.S k97 97 wx2 w.heap.size (fun _ => True) (.slice (some ⟨gox1, 0, none⟩) x3_1.length cox1) y116 := (by rw [hw, Ny116.out]; exact HPx1.1); clear HPx1; replace HO_y1 := aM (hp_); replace HB := aM ((by rw [hw]; exact below_set (below_set (below_set (below_set (below_set (HB.out) GBx1.out) GBx1.out) GBx1.out) GBx1.out) GBx1.out : Below w.heap.size w wx2)); clear HOx1 HOx2 HOx3; clear hg hw hp_))
   go_roundg k1
   case measure => have := HKy1.out; omega
   case rel => exact ⟨(y116), (wrap64 (x4_1 + 1)), rS, H', ⟨by have := HKy1.out; omega⟩, ⟨(sX HO_y1.out)⟩, ⟨(hX HB.out)⟩⟩
def laws_toCall.f (k : Nat) (a0_0 : Int) (a0_1 : Int) (a0_2 : Int) (a0_3 : Int) (a0_4 : Int) (a0_5 : Int) (a0_6 : Int) (a0_7 : Int) (l0_8 : List Int) : Option (Int × Int × Int × Int × Int × Int × Int × Int × List Int) := (laws_toOp.f a0_1 a0_2 a0_3).bind fun bt104 => ((laws_toRes.f k a0_7 l0_8).bind fun bt107 => (some (a0_0, bt104.1, bt104.2.1, bt104.2.2, a0_4, a0_5, a0_6, bt107.1, bt107.2)))
theorem laws_toCall.calls (k : Nat) (a0_0 : Int) (a0_1 : Int) (a0_2 : Int) (a0_3 : Int) (a0_4 : Int) (a0_5 : Int) (a0_6 : Int) (a0_7 : Int) (A0_8 : Option Addr) (c0_8 : Nat) (l0_8 : List Int) (r1 : Int) (r2 : Int) (r3 : Int) (r4 : Int) (r5 : Int) (r6 : Int) (r7 : Int) (r8 : Int) (r9 : List Int) (w : World) (hr0_8 : Kd.C (Kd.int .i64) w A0_8 l0_8.length l0_8) (hc0_8 : l0_8.length ≤ c0_8) (h : laws_toCall.f k a0_0 a0_1 a0_2 a0_3 a0_4 a0_5 a0_6 a0_7 l0_8 = some (r1, r2, r3, r4, r5, r6, r7, r8, r9)) :
  Calls Tryz.prog 100 #[.agg #[.int .i64 a0_0, .int .i64 a0_1, .int .i64 a0_2, .int .i64 a0_3, .int .i64 a0_4, .int .i64 a0_5, .int .i64 a0_6, .int .i64 a0_7, .slice A0_8 l0_8.length c0_8]] w fun e w' => ∃ v8_ : Value, e = .returned (.agg #[.int .i64 r1, .int .i64 r2, .int .i64 r3, .int .i64 r4, .int .i64 r5, .int .i64 r6, .int .i64 r7, .int .i64 r8, v8_]) ∧ Kd.R (Kd.int .i64) 3 w' w.heap.size (fun _ => True) v8_ r9 ∧ Below w.heap.size w w' := by
 have hu119 := Tryz.underlying119
 have hu73 := Tryz.underlying73
 have hu116 := Tryz.underlying116
 have hu69 := Tryz.underlying69
 have hu117 := Tryz.underlying117
 have hu71 := Tryz.underlying71
 have HR0_8 := aM hr0_8
 have HC0_8 := aM hc0_8
 clear hr0_8 hc0_8
 have HB := aM (Below.refl w.heap.size w)
 have H := h
 unfold laws_toCall.f at H
 clear h
 replace H := bE H; obtain ⟨⟨t104, t105, t106⟩, A2, H⟩ := H
 try dsimp only at H
 replace H := bE H; obtain ⟨⟨t107, t108⟩, A3, H⟩ := H
 try dsimp only at H
 simp only [Option.some.injEq, Prod.mk.injEq] at H
 obtain ⟨rfl, rfl, rfl, rfl, rfl, rfl, rfl, rfl, rfl⟩ := H
 go_enter Tryz.func100, Tryz.ntmps100
 go_wp2_with (first | (refine boxE 1 #[.int .i64 a0_0, .int .i64 a0_1, .int .i64 a0_2, .int .i64 a0_3, .int .i64 a0_4, .int .i64 a0_5, .int .i64 a0_6, .int .i64 a0_7, .slice A0_8 l0_8.length c0_8] 119 ?_; intro gbz1 hg wz1 hbox hb; have BKz1 := aM (hbox); have GWz1 := aG hg HB; have GEz1 := aG hg HB; replace HB := aS HB hb; clear hb hbox hg) | (refine boxE 2 #[.int .i64 0, .int .i64 0, .int .i64 0, .int .i64 0, .int .i64 0, .int .i64 0, .int .i64 0, .int .i64 0, .slice none 0 0] 73 ?_; intro gbz2 hg wz2 hbox hb; have BKz2 := aM (hbox); have GWz2 := aG hg HB; have GEz2 := aG hg HB; have NBz1 := aL hg BKz1; have NBz2 := aR hg BKz1; replace BKz1 := aB BKz1 hb; replace HB := aS HB hb; clear hb hbox hg) | (refine boxE 3 #[.int .i64 0, .int .i64 0, .int .i64 0, .int .i64 0, .int .i64 0, .int .i64 0, .int .i64 0, .int .i64 0, .slice none 0 0] 73 ?_; intro gbz3 hg wz3 hbox hb; have BKz3 := aM (hbox); have GWz3 := aG hg HB; have GEz3 := aG hg HB; have NBz3 := aL hg BKz1; have NBz4 := aR hg BKz1; have NBz5 := aL hg BKz2; have NBz6 := aR hg BKz2; replace BKz1 := aB BKz1 hb; replace BKz2 := aB BKz2 hb; replace HB := aS HB hb; clear hb hbox hg; have hnbz1 := NBz1.out; have hncz1 := NBz2.out; have hnbz2 := NBz3.out; have hncz2 := NBz4.out; have hczz1 := cZ9 BKz1.out; have hnbz3 := NBz6.out; have hncz3 := NBz5.out; have hczz10 := cZ9 BKz3.out) | (refine gB 126 9 Tryz.func126 (laws_toOp.calls _ _ _ _ _ _ _ A2.out) ?_; intro wz4 hb; replace BKz1 := aF BKz1 hb; replace BKz2 := aF BKz2 hb; replace BKz3 := aM (blk_below (g := gbz3) (o := .cells #[.int .i64 a0_0, .int .i64 0, .int .i64 0, .int .i64 0, .int .i64 0, .int .i64 0, .int .i64 0, .int .i64 0, .slice none 0 0] 73 (0, 0)) (bP BKz3.out) hb); replace HB := aS HB hb; clear hb; have hczz19 := cZ9 BKz3.out; have hczz28 := cZ9 BKz1.out) | (refine goesM 168 22 Tryz.func168 #[.agg #[.int .i64 a0_7, .slice A0_8 l0_8.length c0_8]] ?_; refine (laws_toRes.calls k a0_7 _ _ l0_8 t107 t108 _ (by exact Kd.C_below HR0_8.out (hX HB.out)) HC0_8.out A3.out).mono ?_; rintro e wz5 ⟨vz1, rfl, hoz1, hb⟩; refine ⟨_, rfl, ?_⟩; have HOz1 := aM (Kd.R_lower hoz1 (below_size (hX HB.out))); replace BKz1 := aF BKz1 hb; replace BKz2 := aF BKz2 hb; replace BKz3 := aM (blk_below (g := gbz3) (o := .cells #[.int .i64 a0_0, .int .i64 t104, .int .i64 t105, .int .i64 t106, .int .i64 a0_4, .int .i64 a0_5, .int .i64 a0_6, .int .i64 0, .slice none 0 0] 73 (0, 0)) (bP BKz3.out) hb); replace HB := aS HB hb; clear hb hoz1; have hczz37 := cZ9 BKz3.out; obtain ⟨Aoz1, coz1, eoz1⟩ := Kd.R_slice HOz1.out; subst eoz1; have hczz46 := cZ9 BKz2.out))
 refine bodyPost_ret (results_cell_row rfl _ _ gbz2 73 #[.int .i64 a0_0, .int .i64 t104, .int .i64 t105, .int .i64 t106, .int .i64 a0_4, .int .i64 a0_5, .int .i64 a0_6, .int .i64 t107, .slice Aoz1 t108.length coz1] (0, 0) _ rfl (bP BKz2.out) Tryz.underlying73 rfl (by kernel_rfl)) rfl ?_
 exact ⟨_, rE, (rT (h := by exact Kd.R_mono (Kd.R_far (p := ⟨gbz2, 8, none⟩) (Kd.R_far (p := ⟨gbz2, 7, none⟩) (Kd.R_far (p := ⟨gbz2, 6, none⟩) (Kd.R_far (p := ⟨gbz2, 5, none⟩) (Kd.R_far (p := ⟨gbz2, 4, none⟩) (Kd.R_far (p := ⟨gbz2, 3, none⟩) (Kd.R_far (p := ⟨gbz2, 2, none⟩) (Kd.R_far (p := ⟨gbz2, 1, none⟩) (Kd.R_far (p := ⟨gbz2, 0, none⟩) (Kd.R_far (p := ⟨gbz3, 8, none⟩) (Kd.R_far (p := ⟨gbz3, 7, none⟩) (Kd.R_types (Kd.R_types HOz1.out BKz3.out (by decide)) BKz2.out (by decide)) (fun _ hk => hk.1.2) (.int .i64 t107)) (fun _ hk => hk.1.2) (.slice Aoz1 t108.length coz1)) (fun _ hk => hk.2) (.int .i64 a0_0)) (fun _ hk => hk.2) (.int .i64 t104)) (fun _ hk => hk.2) (.int .i64 t105)) (fun _ hk => hk.2) (.int .i64 t106)) (fun _ hk => hk.2) (.int .i64 a0_4)) (fun _ hk => hk.2) (.int .i64 a0_5)) (fun _ hk => hk.2) (.int .i64 a0_6)) (fun _ hk => hk.2) (.int .i64 t107)) (fun _ hk => hk.2) (.slice Aoz1 t108.length coz1)) (fun _ hk => trivial))), (hX HB.out)⟩
def laws_toCallS.l0 : Nat → List (S119) → List (S73) → Int → Option ((List (S73)))
 | 0, _, _, _ => none
 | k + 1, x0, x3, x4 => if x4 < (x0.length : Int) then (if 0 ≤ x4 then ((laws_toCall.f k ((rd_T119 x0 x4).f0) ((rd_T119 x0 x4).f1.f0) ((rd_T119 x0 x4).f1.f1) ((rd_T119 x0 x4).f1.f2) ((rd_T119 x0 x4).f2) ((rd_T119 x0 x4).f3) ((rd_T119 x0 x4).f4) ((rd_T119 x0 x4).f5.f0) ((rd_T119 x0 x4).f5.f1)).bind fun bt105 => (if x4 < (x3.length : Int) then (laws_toCallS.l0 k x0 (x3.set (x4 : Int).toNat (⟨bt105.1, (⟨bt105.2.1, bt105.2.2.1, bt105.2.2.2.1⟩ : S69), bt105.2.2.2.2.1, bt105.2.2.2.2.2.1, bt105.2.2.2.2.2.2.1, (⟨bt105.2.2.2.2.2.2.2.1, bt105.2.2.2.2.2.2.2.2⟩ : S71)⟩ : S73)) (wrap64 (x4 + 1))) else (none))) else (none)) else (some x3)
def laws_toCallS.f (k : Nat) (l0 : List (S119)) : Option ((List (S73))) := if 0 ≤ (l0.length : Int) then (if ((l0.length : Int) : Int).toNat ≤ 3198579280802 then (laws_toCallS.l0 k l0 (List.replicate ((l0.length : Int) : Int).toNat z73) 0) else (none)) else (none)
theorem laws_toCallS.calls (k : Nat) (A0 : Option Addr) (c0 : Nat) (l0 : List (S119)) (r : List (S73)) (w : World) (hr0 : Kd.C k119 w A0 l0.length l0) (hc0 : l0.length ≤ c0) (h : laws_toCallS.f k l0 = some r) :
  Calls Tryz.prog 46 #[.slice A0 l0.length c0] w fun e w' => ∃ v0_ : Value, e = .returned (v0_) ∧ Kd.S k73 73 w' w.heap.size (fun _ => True) v0_ r ∧ Below w.heap.size w w' := by
 have hu119 := Tryz.underlying119
 have hu73 := Tryz.underlying73
 have HR0 := aM hr0
 have HC0 := aM hc0
 clear hr0 hc0
 have HB := aM (Below.refl w.heap.size w)
 have H := h
 unfold laws_toCallS.f at H
 clear h
 replace H := ifP H; obtain ⟨c2, H⟩ := H
 have c2b0 := eq_true c2
 have c2b1 := decide_eq_true c2
 clear c2
 replace H := ifP H; obtain ⟨c3, H⟩ := H
 have c3b0 := eq_true c3
 have c3b1 := decide_eq_true c3
 clear c3
 obtain ⟨y101, hy101⟩ : ∃ y_ : List (S73), y_ = (List.replicate ((l0.length : Int) : Int).toNat z73) := ⟨_, rfl⟩
 replace H : (laws_toCallS.l0 k l0 y101 0) = some r := yH H hy101
 have Ny101 := aM hy101
 clear hy101
 have H' := aM H
 clear H
 go_enter Tryz.func46, Tryz.ntmps46
 go_wp2_with ((with_reducible refine gate_dst (N := 7) rfl ?_); refine Kd.S_make k73 _ 73 rfl (N := 7) rfl 40 _ _ rfl (l0.length : Int) rfl rfl Tryz.underlying40 (.agg #[(.int .i64 0), (.int .i64 0), (.int .i64 0), (.int .i64 0), (.int .i64 0), (.int .i64 0), (.int .i64 0), (.int .i64 0), (.slice none 0 0)]) 88 info73 rfl (by decide) (by omega) z73 (ok := fun _ => True) (okp := fun _ => True) (k73_mkM _ _ _ z73 (Kd.R_nil _ _ _ _ _)) (fun _ hk => hk) trivial (odA) (Nat.le_trans (Nat.mul_le_mul_right _ (odA : (l0.length : Int).toNat ≤ 3198579280802)) (by omega)) (Below.refl _ _) (Nat.le_refl _) ?_; intro vz1 wz1 hoz1 hb hg_ hnew_; clear hg_ hnew_; (first | rw [← Ny101.out] at hoz1 | (simp only [Int.reduceToNat] at hoz1; rw [← Ny101.out] at hoz1)); have HOz1 := aM (Kd.S_lower hoz1 (below_size (hX HB.out))); replace HB := aS HB hb; clear hb hoz1)
 go_loopg [4] k (fun kq v4 w' => ∃ (x3_1 : List (S73)) (x4_1 : Int), v4 = .int .i64 x4_1 ∧ Aside0 (laws_toCallS.l0 kq l0 x3_1 x4_1 = some r) ∧ Aside0 (kq ≤ k) ∧ Aside0 (Kd.S k73 73 w' w.heap.size (fun _ => True) vz1 x3_1) ∧ Aside0 (Below w.heap.size w w'))
 case atStart => exact ⟨(y101), (0), rS, H', ⟨Nat.le_refl _⟩, ⟨(sX HOz1.out)⟩, ⟨(hX HB.out)⟩⟩
 case round =>
  clear H'
  try clear c2
  try clear c2b0
  try clear c2b1
  try clear c3
  try clear c3b0
  try clear c3b1
  obtain ⟨x3_1, x4_1, rfl, HA, HKy1, HO_y1, HB⟩ := hrel
  cases gk with
  | zero => exact absurd HA.out (by simp [laws_toCallS.l0])
  | succ k1 =>
   have H := HA.out
   clear HA
   simp only [laws_toCallS.l0] at H
   revert H; refine iN (fun c6b0 H => ?_) (fun c6b0 H => ?_)
   ·obtain rfl := sI H
    go_wp2
    go_ret
    exact ⟨_, rE, (sX HO_y1.out), (hX HB.out)⟩
   replace H := ifQ H; obtain ⟨c7b0, H⟩ := H
   replace H := bE H; obtain ⟨⟨t105, t106, t107, t108, t109, t110, t111, t112, t113⟩, A8, H⟩ := H
   try dsimp only at H
   replace H := ifQ H; obtain ⟨c9b0, H⟩ := H
   obtain ⟨y116, hy116⟩ : ∃ y_ : List (S73), y_ = (x3_1.set (x4_1 : Int).toNat (⟨t105, (⟨t106, t107, t108⟩ : S69), t109, t110, t111, (⟨t112, t113⟩ : S71)⟩ : S73)) := ⟨_, rfl⟩
   replace H : (laws_toCallS.l0 k1 l0 y116 (wrap64 (x4_1 + 1))) = some r := yH H hy116
   have Ny116 := aM hy116
   clear hy116
   have H' := aM H
   clear H
   obtain ⟨adx1, Ax1, cx1, ex1, px1, qx1, hxx1, HCx1, HRx1⟩ := at_T119c HR0 HB x4_1
   cases ex1
   go_wp2_with (first | (refine goesM 100 20 Tryz.func100 #[.agg #[.int .i64 ((rd_T119 l0 x4_1).f0), .int .i64 ((rd_T119 l0 x4_1).f1.f0), .int .i64 ((rd_T119 l0 x4_1).f1.f1), .int .i64 ((rd_T119 l0 x4_1).f1.f2), .int .i64 ((rd_T119 l0 x4_1).f2), .int .i64 ((rd_T119 l0 x4_1).f3), .int .i64 ((rd_T119 l0 x4_1).f4), .int .i64 ((rd_T119 l0 x4_1).f5.f0), .slice Ax1 ((rd_T119 l0 x4_1).f5.f1).length cx1]] ?_; refine (laws_toCall.calls _ _ _ _ _ _ _ _ _ _ _ _ _ _ _ _ _ _ _ _ _ _ (cC HRx1.out HB.out) HCx1.out A8.out).mono ?_; rintro e wx1 ⟨vx1, rfl, hox1, hb⟩; refine ⟨_, rfl, ?_⟩; have HOx1 := aM (Kd.R_lower hox1 (below_size (hX HB.out))); replace HO_y1 := aM (Kd.S_elder' (sX HO_y1.out) (Kd.R_base hox1) hb); replace HB := aS HB hb; clear hb hox1; have px2 : 0 ≤ (x4_1 : Int) := odA; have qx2 : (x4_1 : Int) < ((x3_1.length : Int) : Int) := odA; obtain ⟨gox1, cox1, eox1, gbx1, glx1, clx1, HGx1⟩ := Kd.S_form HO_y1.out (by omega); (first | cases eox1 | (injection eox1 with ea_ en_ ec_; (first | subst ea_ | (injection ea_ with ea_; subst ea_)); subst ec_; clear en_)); have GBx1 := aM gbx1; have GGx1 := aM HGx1; clear gbx1 glx1 HGx1; obtain ⟨_, cex1, hclx1, hMx1, hccx1, hfrx1, _, _⟩ := Kd.S_elem HO_y1.out z73 (x4_1 : Int) px2 qx2; obtain ⟨vex1, rfl, gex1⟩ := k73_openM hMx1; have hxx10 : wx1.cell? ⟨gox1, (x4_1 : Int).toNat * 9, none⟩ = some (.int .i64 ((rd_T73 x3_1 x4_1).f0)) := hccx1 0 _ rfl; have hxx11 : wx1.cell? ⟨gox1, (x4_1 : Int).toNat * 9 + 1, none⟩ = some (.int .i64 ((rd_T73 x3_1 x4_1).f1.f0)) := hccx1 1 _ rfl; have hxx12 : wx1.cell? ⟨gox1, (x4_1 : Int).toNat * 9 + 2, none⟩ = some (.int .i64 ((rd_T73 x3_1 x4_1).f1.f1)) := hccx1 2 _ rfl; have hxx13 : wx1.cell? ⟨gox1, (x4_1 : Int).toNat * 9 + 3, none⟩ = some (.int .i64 ((rd_T73 x3_1 x4_1).f1.f2)) := hccx1 3 _ rfl; have hxx14 : wx1.cell? ⟨gox1, (x4_1 : Int).toNat * 9 + 4, none⟩ = some (.int .i64 ((rd_T73 x3_1 x4_1).f2)) := hccx1 4 _ rfl; have hxx15 : wx1.cell? ⟨gox1, (x4_1 : Int).toNat * 9 + 5, none⟩ = some (.int .i64 ((rd_T73 x3_1 x4_1).f3)) := hccx1 5 _ rfl; have hxx16 : wx1.cell? ⟨gox1, (x4_1 : Int).toNat * 9 + 6, none⟩ = some (.int .i64 ((rd_T73 x3_1 x4_1).f4)) := hccx1 6 _ rfl; have hxx17 : wx1.cell? ⟨gox1, (x4_1 : Int).toNat * 9 + 7, none⟩ = some (.int .i64 ((rd_T73 x3_1 x4_1).f5.f0)) := hccx1 7 _ rfl; have hxx18 : wx1.cell? ⟨gox1, (x4_1 : Int).toNat * 9 + 8, none⟩ = some (vex1) := hccx1 8 _ rfl; have hfx1 : wx1.frozen? ⟨gox1, (x4_1 : Int).toNat * 9, none⟩ = false := hfrx1 0; have hfx2 : wx1.frozen? ⟨gox1, (x4_1 : Int).toNat * 9 + 1, none⟩ = false := hfrx1 1; have hfx3 : wx1.frozen? ⟨gox1, (x4_1 : Int).toNat * 9 + 2, none⟩ = false := hfrx1 2; have hfx4 : wx1.frozen? ⟨gox1, (x4_1 : Int).toNat * 9 + 3, none⟩ = false := hfrx1 3; have hfx5 : wx1.frozen? ⟨gox1, (x4_1 : Int).toNat * 9 + 4, none⟩ = false := hfrx1 4; have hfx6 : wx1.frozen? ⟨gox1, (x4_1 : Int).toNat * 9 + 5, none⟩ = false := hfrx1 5; have hfx7 : wx1.frozen? ⟨gox1, (x4_1 : Int).toNat * 9 + 6, none⟩ = false := hfrx1 6; have hfx8 : wx1.frozen? ⟨gox1, (x4_1 : Int).toNat * 9 + 7, none⟩ = false := hfrx1 7; have hfx9 : wx1.frozen? ⟨gox1, (x4_1 : Int).toNat * 9 + 8, none⟩ = false := hfrx1 8; clear hclx1 hccx1 hfrx1 hMx1; replace px2 := eq_true px2; replace qx2 := eq_true qx2; obtain ⟨Aox1, cox2, eox2⟩ := Kd.R_slice HOx1.out; subst eox2; have n_ := aM (Kd.S_mono (ok' := (fun k_ => some k_ ≠ (.slice Aox1 t113.length cox2 : Value).ownBlock)) HO_y1.out (fun k_ hk => hk.2)); clear HO_y1; have HO_y1 := n_; clear n_; have HXx1 := aM (show Kd.S k73 73 wx1 w.heap.size (fun k_ => ((fun _ => True)) k_ ∧ ¬ ((fun k_ => some k_ = (.slice Aox1 t113.length cox2 : Value).ownBlock)) k_) (.slice (some ⟨gox1, 0, none⟩) x3_1.length cox1) x3_1 from (by (with_reducible repeat (first | apply Kd.S_alloc | apply Kd.S_drewN | apply Kd.S_drew)); exact Kd.S_mono HO_y1.out (fun k_ hk => ⟨trivial, fun e_ => hk e_⟩))); obtain ⟨okix1, cex2, hclx2, hMx2, hccx2, hfrx2, hokix1, hHx1⟩ := Kd.S_elem HXx1.out z73 (x4_1 : Int) (odA) (by have h_ : (x4_1 : Int) < ((x3_1.length : Int) : Int) := odA; first | exact h_ | (have e_ := (Kd.S_reads' HO_y1.out).1; omega) | simpa using h_); obtain ⟨vex2, rfl, gex2⟩ := k73_openM hMx2; have HPx1 := Kd.S_seg hHx1 (odA) (by have h_ : (x4_1 : Int) < ((x3_1.length : Int) : Int) := odA; first | exact h_ | (have e_ := (Kd.S_reads' HO_y1.out).1; omega) | simpa using h_) (seg := [.int .i64 t105, .int .i64 t106, .int .i64 t107, .int .i64 t108, .int .i64 t109, .int .i64 t110, .int .i64 t111, .int .i64 t112, .slice Aox1 t113.length cox2]) (j := 0) (show 9 ≤ 9 from by decide) (x' := (⟨t105, (⟨t106, t107, t108⟩ : S69), t109, t110, t111, (⟨t112, t113⟩ : S71)⟩ : S73)) (k73_mkM _ _ _ (⟨t105, (⟨t106, t107, t108⟩ : S69), t109, t110, t111, (⟨t112, t113⟩ : S71)⟩ : S73) (Kd.R_mono (Kd.R_tight rfl (Kd.R_mono (ok' := fun k_ => ((fun _ => True)) k_ ∧ k_ ≠ gox1) (Kd.R_apart' (HOx1.out) (Kd.S_typed HO_y1.out) (by decide)) (fun k_ hk => ⟨trivial, fun e_ => (hk.2) (by rw [e_]; rfl)⟩))) (fun _ h_ => Or.inr (h_)))) (fun _ hk => hk) (fun k_ hk_ => ((Kd.R_mono (ok' := fun k_ => ((fun _ => True)) k_ ∧ k_ ≠ gox1) (Kd.R_apart' (HOx1.out) (Kd.S_typed HO_y1.out) (by decide)) (fun k_ hk => ⟨trivial, fun e_ => (hk.2) (by rw [e_]; rfl)⟩))).1 k_ hk_.symm); have hxx19 := hccx2 0 _ rfl; (try simp only [show (k73).sz = 9 from rfl, Nat.mul_one, Nat.add_zero] at hxx19); have hfx10 := hfrx2 0; (try simp only [show (k73).sz = 9 from rfl, Nat.mul_one, Nat.add_zero] at hfx10); have hxx20 := hccx2 1 _ rfl; (try simp only [show (k73).sz = 9 from rfl, Nat.mul_one, Nat.add_zero] at hxx20); have hfx11 := hfrx2 1; (try simp only [show (k73).sz = 9 from rfl, Nat.mul_one, Nat.add_zero] at hfx11); have hxx21 := hccx2 2 _ rfl; (try simp only [show (k73).sz = 9 from rfl, Nat.mul_one, Nat.add_zero] at hxx21); have hfx12 := hfrx2 2; (try simp only [show (k73).sz = 9 from rfl, Nat.mul_one, Nat.add_zero] at hfx12); have hxx22 := hccx2 3 _ rfl; (try simp only [show (k73).sz = 9 from rfl, Nat.mul_one, Nat.add_zero] at hxx22); have hfx13 := hfrx2 3; (try simp only [show (k73).sz = 9 from rfl, Nat.mul_one, Nat.add_zero] at hfx13); have hxx23 := hccx2 4 _ rfl; (try simp only [show (k73).sz = 9 from rfl, Nat.mul_one, Nat.add_zero] at hxx23); have hfx14 := hfrx2 4; (try simp only [show (k73).sz = 9 from rfl, Nat.mul_one, Nat.add_zero] at hfx14); have hxx24 := hccx2 5 _ rfl; (try simp only [show (k73).sz = 9 from rfl, Nat.mul_one, Nat.add_zero] at hxx24); have hfx15 := hfrx2 5; (try simp only [show (k73).sz = 9 from rfl, Nat.mul_one, Nat.add_zero] at hfx15); have hxx25 := hccx2 6 _ rfl; (try simp only [show (k73).sz = 9 from rfl, Nat.mul_one, Nat.add_zero] at hxx25); have hfx16 := hfrx2 6; (try simp only [show (k73).sz = 9 from rfl, Nat.mul_one, Nat.add_zero] at hfx16); have hxx26 := hccx2 7 _ rfl; (try simp only [show (k73).sz = 9 from rfl, Nat.mul_one, Nat.add_zero] at hxx26); have hfx17 := hfrx2 7; (try simp only [show (k73).sz = 9 from rfl, Nat.mul_one, Nat.add_zero] at hfx17); have hxx27 := hccx2 8 _ rfl; (try simp only [show (k73).sz = 9 from rfl, Nat.mul_one, Nat.add_zero] at hxx27); have hfx18 := hfrx2 8; (try simp only [show (k73).sz = 9 from rfl, Nat.mul_one, Nat.add_zero] at hfx18); clear hclx2 hccx2 hfrx2 hMx2 hokix1 hHx1) | ((with_reducible refine gate_store (t := 73) (p := 21) rfl ?_); refine store_event (t := 73) (p := 21) (v := ?vo_wx2) (w1 := (((((((((wx1.setCell ⟨gox1, (x4_1 : Int).toNat * 9, none⟩ (.int .i64 t105)).setCell ⟨gox1, (x4_1 : Int).toNat * 9 + 1, none⟩ (.int .i64 t106)).setCell ⟨gox1, (x4_1 : Int).toNat * 9 + 2, none⟩ (.int .i64 t107)).setCell ⟨gox1, (x4_1 : Int).toNat * 9 + 3, none⟩ (.int .i64 t108)).setCell ⟨gox1, (x4_1 : Int).toNat * 9 + 4, none⟩ (.int .i64 t109)).setCell ⟨gox1, (x4_1 : Int).toNat * 9 + 5, none⟩ (.int .i64 t110)).setCell ⟨gox1, (x4_1 : Int).toNat * 9 + 6, none⟩ (.int .i64 t111)).setCell ⟨gox1, (x4_1 : Int).toNat * 9 + 7, none⟩ (.int .i64 t112)).setCell ⟨gox1, (x4_1 : Int).toNat * 9 + 8, none⟩ (.slice Aox1 t113.length cox2))) ?hg ?ho ?hn ?hr ?_; (case ho => rfl); (case hg => rfl); (case hn => rfl); (case hr => first | (go_simp; done) | (go_simp; rfl)); intro wx2 hw; have hg : wx1.grownBy wx2 (some gox1) := (by rw [hw]; exact HPx1.2); have hp_ : Kd.S k73 73 wx2 w.heap.size (fun _ => True) (.slice (some ⟨gox1, 0, none⟩) x3_1.length cox1) y116 := (by rw [hw, Ny116.out]; exact HPx1.1); clear HPx1; replace HO_y1 := aM (hp_); replace HB := aM ((by rw [hw]; exact below_set (below_set (below_set (below_set (below_set (below_set (below_set (below_set (below_set (HB.out) GBx1.out) GBx1.out) GBx1.out) GBx1.out) GBx1.out) GBx1.out) GBx1.out) GBx1.out) GBx1.out : Below w.heap.size w wx2)); clear HOx1; clear hg hw hp_))
   go_roundg k1
   case measure => have := HKy1.out; omega
   case rel => exact ⟨(y116), (wrap64 (x4_1 + 1)), rS, H', ⟨by have := HKy1.out; omega⟩, ⟨(sX HO_y1.out)⟩, ⟨(hX HB.out)⟩⟩
end Go.Proofs.YtmljebgideecjaaGreat.P2

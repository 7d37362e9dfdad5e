/- A part of the proof of the law FnTexts: texts of this seat, merged (words, printed functions of the program, plain lemmas). Conditions: none of its own. -/
import Derived.Test.YtafcfhgdblefgaaDoorPkFnTexts1
set_option linter.unusedSimpArgs false
set_option linter.unusedVariables false
namespace Go.Proofs.YtafcfhgdblefgaaDoor.P
open Go.Proofs.YtafcfhgdblefgaaDoorZ Go.RowKit Go.Proofs.YtafcfhgdblefgaaDoorW.PrintWords Go.Proofs.YtafcfhgdblefgaaDoorW.PrintLast Go.Proofs.YtafcfhgdblefgaaDoorW.PrintMore
attribute [local go_sem] max2_int min2_int max_two min_two max_three min_three max_four min_four   -- for this text's walks alone
mutual
def impl_OpOf.l0 : Nat → ByteArray → List ByteArray → Int → Option (Int × Int × Int × Bool)
  | 0, _, _, _ => none
  | k + 1, x0, x4, x5 => if x5 ≤ 10 then ((impl_opWord.f x5).bind fun bt105 => (if 0 < (x4.length : Int) then (if bt105.1.toList = (rdOf ByteArray.empty x4 0).toList then (if bt105.2.1 = true then (impl_OpOf.j1 k x0 x4 bt105.2.2 1 (decide (1 < (x4.length : Int))) x5 0 0) else (impl_OpOf.j1 k x0 x4 bt105.2.2 1 false x5 0 0)) else (impl_OpOf.l0 k x0 x4 (wrap64 (x5 + 1)))) else (none))) else (some (0, 0, 0, false))
def impl_OpOf.j1 : Nat → ByteArray → List ByteArray → Bool → Int → Bool → Int → Int → Int → Option (Int × Int × Int × Bool)
  | 0, _, _, _, _, _, _, _, _ => none
  | k + 1, x0, x4, x8, x10, x36, x110000, x110001, x110002 => if x36 = true then (if 0 ≤ x10 then (if x10 < (x4.length : Int) then ((impl_Number.f k (rdOf ByteArray.empty x4 x10)).bind fun bt111 => (impl_OpOf.j2 k x0 x4 x8 (wrap64 (x10 + 1)) x110000 bt111.1 x110002)) else (none)) else (none)) else (impl_OpOf.j2 k x0 x4 x8 x10 x110000 x110001 x110002)
def impl_OpOf.j2 : Nat → ByteArray → List ByteArray → Bool → Int → Int → Int → Int → Option (Int × Int × Int × Bool)
  | 0, _, _, _, _, _, _, _ => none
  | k + 1, x0, x4, x8, x10, x110000, x110001, x110002 => if x8 = true then (impl_OpOf.j3 k x0 x4 x10 (decide (x10 < (x4.length : Int))) x110000 x110001 x110002) else (impl_OpOf.j3 k x0 x4 x10 false x110000 x110001 x110002)
def impl_OpOf.j3 : Nat → ByteArray → List ByteArray → Int → Bool → Int → Int → Int → Option (Int × Int × Int × Bool)
  | 0, _, _, _, _, _, _, _ => none
  | k + 1, x0, x4, x10, x54, x110000, x110001, x110002 => if x54 = true then (if 0 ≤ x10 then (if x10 < (x4.length : Int) then ((impl_Number.f k (rdOf ByteArray.empty x4 x10)).bind fun bt114 => (impl_OpOf.j4 k x0 x110000 x110001 bt114.1)) else (none)) else (none)) else (impl_OpOf.j4 k x0 x110000 x110001 x110002)
def impl_OpOf.j4 : Nat → ByteArray → Int → Int → Int → Option (Int × Int × Int × Bool)
  | 0, _, _, _, _ => none
  | k + 1, x0, x110000, x110001, x110002 => (impl_OpOk.f k x110000 x110001 x110002).bind fun t116 => (if t116 = true then ((impl_OpText.f k x110000 x110001 x110002).bind fun t117 => (if t117.toList = x0.toList then (some (x110000, x110001, x110002, true)) else (some (0, 0, 0, false)))) else (some (0, 0, 0, false)))
end
def impl_OpOf.f (k : Nat) (a0 : ByteArray) : Option (Int × Int × Int × Bool) := (impl_Split.f a0 32).bind fun t102 => (impl_OpOf.l0 k a0 t102 1)
theorem impl_OpOf.mono_l : ∀ k, (∀ y0 y1 y2, LeO (impl_OpOf.l0 k y0 y1 y2) (impl_OpOf.l0 (k + 1) y0 y1 y2)) ∧ (∀ y0 y1 y2 y3 y4 y5 y6 y7, LeO (impl_OpOf.j1 k y0 y1 y2 y3 y4 y5 y6 y7) (impl_OpOf.j1 (k + 1) y0 y1 y2 y3 y4 y5 y6 y7)) ∧ (∀ y0 y1 y2 y3 y4 y5 y6, LeO (impl_OpOf.j2 k y0 y1 y2 y3 y4 y5 y6) (impl_OpOf.j2 (k + 1) y0 y1 y2 y3 y4 y5 y6)) ∧ (∀ y0 y1 y2 y3 y4 y5 y6, LeO (impl_OpOf.j3 k y0 y1 y2 y3 y4 y5 y6) (impl_OpOf.j3 (k + 1) y0 y1 y2 y3 y4 y5 y6)) ∧ (∀ y0 y1 y2 y3, LeO (impl_OpOf.j4 k y0 y1 y2 y3) (impl_OpOf.j4 (k + 1) y0 y1 y2 y3))
  | 0 => ⟨fun _ _ _ r h => by simp [impl_OpOf.l0] at h, fun _ _ _ _ _ _ _ _ r h => by simp [impl_OpOf.j1] at h, fun _ _ _ _ _ _ _ r h => by simp [impl_OpOf.j2] at h, fun _ _ _ _ _ _ _ r h => by simp [impl_OpOf.j3] at h, fun _ _ _ _ r h => by simp [impl_OpOf.j4] at h⟩
  | k + 1 => by
    obtain ⟨ih0, ih1, ih2, ih3, ih4⟩ := impl_OpOf.mono_l k
    refine ⟨?_, ?_, ?_, ?_, ?_⟩
    · intro y0 y1 y2
      unfold impl_OpOf.l0
      repeat' first
      | (with_reducible exact ih0 _ _ _)
      | (with_reducible exact ih1 _ _ _ _ _ _ _ _)
      | (with_reducible exact ih2 _ _ _ _ _ _ _)
      | (with_reducible exact ih3 _ _ _ _ _ _ _)
      | (with_reducible exact ih4 _ _ _ _)
      | (with_reducible exact impl_Number.mono _ _)
      | (with_reducible exact impl_OpOk.mono _ _ _ _)
      | (with_reducible exact impl_OpText.mono _ _ _ _)
      | (with_reducible exact LeO.refl _)
      | (with_reducible exact LeO.none _)
      | (with_reducible refine LeO.ite ?_ ?_)
      | (with_reducible refine LeO.bind ?_ (fun _ => ?_))
      | exact ih0 _ _ _
      | exact ih1 _ _ _ _ _ _ _ _
      | exact ih2 _ _ _ _ _ _ _
      | exact ih3 _ _ _ _ _ _ _
      | exact ih4 _ _ _ _
      | exact impl_Number.mono _ _
      | exact impl_OpOk.mono _ _ _ _
      | exact impl_OpText.mono _ _ _ _
      | exact LeO.none _
      | refine LeO.ite ?_ ?_
      | refine LeO.bind ?_ (fun _ => ?_)
    · intro y0 y1 y2 y3 y4 y5 y6 y7
      unfold impl_OpOf.j1
      repeat' first
      | (with_reducible exact ih0 _ _ _)
      | (with_reducible exact ih1 _ _ _ _ _ _ _ _)
      | (with_reducible exact ih2 _ _ _ _ _ _ _)
      | (with_reducible exact ih3 _ _ _ _ _ _ _)
      | (with_reducible exact ih4 _ _ _ _)
      | (with_reducible exact impl_Number.mono _ _)
      | (with_reducible exact impl_OpOk.mono _ _ _ _)
      | (with_reducible exact impl_OpText.mono _ _ _ _)
      | (with_reducible exact LeO.refl _)
      | (with_reducible exact LeO.none _)
      | (with_reducible refine LeO.ite ?_ ?_)
      | (with_reducible refine LeO.bind ?_ (fun _ => ?_))
      | exact ih0 _ _ _
      | exact ih1 _ _ _ _ _ _ _ _
      | exact ih2 _ _ _ _ _ _ _
      | exact ih3 _ _ _ _ _ _ _
      | exact ih4 _ _ _ _
      | exact impl_Number.mono _ _
      | exact impl_OpOk.mono _ _ _ _
      | exact impl_OpText.mono _ _ _ _
      | exact LeO.none _
      | refine LeO.ite ?_ ?_
      | refine LeO.bind ?_ (fun _ => ?_)
    · intro y0 y1 y2 y3 y4 y5 y6
      unfold impl_OpOf.j2
      repeat' first
      | (with_reducible exact ih0 _ _ _)
      | (with_reducible exact ih1 _ _ _ _ _ _ _ _)
      | (with_reducible exact ih2 _ _ _ _ _ _ _)
      | (with_reducible exact ih3 _ _ _ _ _ _ _)
      | (with_reducible exact ih4 _ _ _ _)
      | (with_reducible exact impl_Number.mono _ _)
      | (with_reducible exact impl_OpOk.mono _ _ _ _)
      | (with_reducible exact impl_OpText.mono _ _ _ _)
      | (with_reducible exact LeO.refl _)
      | (with_reducible exact LeO.none _)
      | (with_reducible refine LeO.ite ?_ ?_)
      | (with_reducible refine LeO.bind ?_ (fun _ => ?_))
      | exact ih0 _ _ _
      | exact ih1 _ _ _ _ _ _ _ _
      | exact ih2 _ _ _ _ _ _ _
      | exact ih3 _ _ _ _ _ _ _
      | exact ih4 _ _ _ _
      | exact impl_Number.mono _ _
      | exact impl_OpOk.mono _ _ _ _
      | exact impl_OpText.mono _ _ _ _
      | exact LeO.none _
      | refine LeO.ite ?_ ?_
      | refine LeO.bind ?_ (fun _ => ?_)
    · intro y0 y1 y2 y3 y4 y5 y6
      unfold impl_OpOf.j3
      repeat' first
      | (with_reducible exact ih0 _ _ _)
      | (with_reducible exact ih1 _ _ _ _ _ _ _ _)
      | (with_reducible exact ih2 _ _ _ _ _ _ _)
      | (with_reducible exact ih3 _ _ _ _ _ _ _)
      | (with_reducible exact ih4 _ _ _ _)
      | (with_reducible exact impl_Number.mono _ _)
      | (with_reducible exact impl_OpOk.mono _ _ _ _)
      | (with_reducible exact impl_OpText.mono _ _ _ _)
      | (with_reducible exact LeO.refl _)
      | (with_reducible exact LeO.none _)
      | (with_reducible refine LeO.ite ?_ ?_)
      | (with_reducible refine LeO.bind ?_ (fun _ => ?_))
      | exact ih0 _ _ _
      | exact ih1 _ _ _ _ _ _ _ _
      | exact ih2 _ _ _ _ _ _ _
      | exact ih3 _ _ _ _ _ _ _
      | exact ih4 _ _ _ _
      | exact impl_Number.mono _ _
      | exact impl_OpOk.mono _ _ _ _
      | exact impl_OpText.mono _ _ _ _
      | exact LeO.none _
      | refine LeO.ite ?_ ?_
      | refine LeO.bind ?_ (fun _ => ?_)
    · intro y0 y1 y2 y3
      unfold impl_OpOf.j4
      repeat' first
      | (with_reducible exact ih0 _ _ _)
      | (with_reducible exact ih1 _ _ _ _ _ _ _ _)
      | (with_reducible exact ih2 _ _ _ _ _ _ _)
      | (with_reducible exact ih3 _ _ _ _ _ _ _)
      | (with_reducible exact ih4 _ _ _ _)
      | (with_reducible exact impl_Number.mono _ _)
      | (with_reducible exact impl_OpOk.mono _ _ _ _)
      | (with_reducible exact impl_OpText.mono _ _ _ _)
      | (with_reducible exact LeO.refl _)
      | (with_reducible exact LeO.none _)
      | (with_reducible refine LeO.ite ?_ ?_)
      | (with_reducible refine LeO.bind ?_ (fun _ => ?_))
      | exact ih0 _ _ _
      | exact ih1 _ _ _ _ _ _ _ _
      | exact ih2 _ _ _ _ _ _ _
      | exact ih3 _ _ _ _ _ _ _
      | exact ih4 _ _ _ _
      | exact impl_Number.mono _ _
      | exact impl_OpOk.mono _ _ _ _
      | exact impl_OpText.mono _ _ _ _
      | exact LeO.none _
      | refine LeO.ite ?_ ?_
      | refine LeO.bind ?_ (fun _ => ?_)
theorem impl_OpOf.mono : ∀ a0 k, LeO (impl_OpOf.f k a0) (impl_OpOf.f (k + 1) a0) := by
  intro a0 k
  obtain ⟨ih0, ih1, ih2, ih3, ih4⟩ := impl_OpOf.mono_l k
  unfold impl_OpOf.f
  repeat' first
      | (with_reducible exact ih0 _ _ _)
      | (with_reducible exact ih1 _ _ _ _ _ _ _ _)
      | (with_reducible exact ih2 _ _ _ _ _ _ _)
      | (with_reducible exact ih3 _ _ _ _ _ _ _)
      | (with_reducible exact ih4 _ _ _ _)
      | (with_reducible exact impl_Number.mono _ _)
      | (with_reducible exact impl_OpOk.mono _ _ _ _)
      | (with_reducible exact impl_OpText.mono _ _ _ _)
      | (with_reducible exact LeO.refl _)
      | (with_reducible exact LeO.none _)
      | (with_reducible refine LeO.ite ?_ ?_)
      | (with_reducible refine LeO.bind ?_ (fun _ => ?_))
      | exact ih0 _ _ _
      | exact ih1 _ _ _ _ _ _ _ _
      | exact ih2 _ _ _ _ _ _ _
      | exact ih3 _ _ _ _ _ _ _
      | exact ih4 _ _ _ _
      | exact impl_Number.mono _ _
      | exact impl_OpOk.mono _ _ _ _
      | exact impl_OpText.mono _ _ _ _
      | exact LeO.none _
      | refine LeO.ite ?_ ?_
      | refine LeO.bind ?_ (fun _ => ?_)
set_option maxHeartbeats 8000000 in
set_option maxRecDepth 100000 in
theorem impl_OpOf.calls (k : Nat) (a0 : ByteArray) (r1 : Int) (r2 : Int) (r3 : Int) (r4 : Bool) (w : World) (h : impl_OpOf.f k a0 = some (r1, r2, r3, r4)) :
    Calls Tryd.prog 7 #[.string a0] w fun e w' => e = .returned (.tuple #[.agg #[.int .i64 r1, .int .i64 r2, .int .i64 r3], .bool r4]) ∧ Below w.heap.size w w' := by
  have hu23 := Tryd.underlying23
  have HB := aM (Below.refl w.heap.size w)
  have H := h
  unfold impl_OpOf.f at H
  clear h
  replace H := bE H; obtain ⟨t102, A2, H⟩ := H
  have H' := aM H
  clear H
  go_enter Tryd.func7, Tryd.ntmps7
  go_wp2_with (first | ((with_reducible refine gate_dst (N := 2) rfl ?_); (try (refine gate_guard (by rfl) ?_; dsimp only)); refine boxF 2 #[.int .i64 0, .int .i64 0, .int .i64 0] 23 ?_; intro gbz1 hg wz1 hbox hb; have BKz1 := aM (hbox); have GWz1 := aG hg HB; have GEz1 := aG hg HB; replace HB := aS HB hb; clear hb hbox hg) | (refine goesM 32 12 Tryd.func32 #[.string a0, .int .u8 32] ?_; refine (impl_Split.calls _ _ _ _ A2.out).mono ?_; rintro e wz2 ⟨vz1, rfl, hoz1, hb⟩; refine ⟨_, rfl, ?_⟩; have HOz1 := aM (Kd.R_lower hoz1 (below_size (hX HB.out))); replace BKz1 := aB BKz1 hb; replace HB := aS HB hb; clear hb hoz1))
  go_loopg [5] k (fun kq v5 w' => ∃ (x5_1 : Int) (x102000_1 : Int) (x102001_1 : Int) (x102002_1 : Int), v5 = .int .i64 x5_1 ∧ Aside0 (impl_OpOf.l0 kq a0 t102 x5_1 = some (r1, r2, r3, r4)) ∧ Aside0 (kq ≤ k) ∧ Aside0 (Kd.R Kd.string 9 w' w.heap.size (fun _ => True) vz1 t102) ∧ Aside0 (w'.heap[gbz1]? = some (.cells #[.int .i64 x102000_1, .int .i64 x102001_1, .int .i64 x102002_1] 23 (0, 0))) ∧ Aside0 (Below w.heap.size w w'))
  case atStart => exact ⟨(1), (0), (0), (0), rS, H', ⟨Nat.le_refl _⟩, ⟨(rX HOz1.out)⟩, ⟨(bX BKz1.out)⟩, ⟨(hX HB.out)⟩⟩
  case round =>
    clear H'
    try clear p2
    obtain ⟨x5_1, x102000_1, x102001_1, x102002_1, rfl, HA, HKy1, HO_y1, BKz1, HB⟩ := hrel
    cases gk with
    | zero => exact absurd HA.out (by simp [impl_OpOf.l0])
    | succ k1 =>
      have H := HA.out
      clear HA
      simp only [impl_OpOf.l0] at H
      by_cases c5 : x5_1 ≤ 10
      case neg =>
        rw [if_neg c5] at H
        have c5b0 := decide_eq_false c5
        clear c5
        simp only [Option.some.injEq, Prod.mk.injEq] at H
        obtain ⟨rfl, rfl, rfl, rfl⟩ := H
        obtain ⟨hczx1, hczx2, hczx3, hfzx1, hfzx2, hfzx3⟩ := cZ3 BKz1.out
        go_wp2
        refine bodyPost_ret (results_ct rfl _ _ gbz1 23 #[.int .i64 0, .int .i64 0, .int .i64 0] (0, 0) _ rfl (bP BKz1.out) Tryd.underlying23 rfl (by kernel_rfl)) rfl ?_
        exact ⟨rE, (hX HB.out)⟩
      rw [if_pos c5] at H
      have c5b0 := decide_eq_true c5
      clear c5
      replace H := bE H; obtain ⟨⟨t105, t106, t107⟩, A6, H⟩ := H
      try dsimp only at H
      replace H := ifP H; obtain ⟨c7, H⟩ := H
      have c7b0 := decide_eq_true c7
      have c7b1 : decide (0 < t102.length) = true := decide_eq_true (by omega)
      clear c7
      by_cases c8 : t105.toList = (rdOf ByteArray.empty t102 0).toList
      case neg =>
        rw [if_neg c8] at H
        obtain ⟨c8b0, c8b1⟩ := eqF c8
        have H' := aM H
        clear H
        go_wp2_with (first | (refine goesM 33 19 Tryd.func33 #[.int .i64 x5_1] ?_; refine (impl_opWord.calls _ _ _ _ _ A6.out).mono ?_; rintro e w' ⟨rfl, ⟨nd, rfl⟩⟩; refine ⟨_, rfl, ?_⟩; obtain ⟨Aox1, cox1, eox1⟩ := Kd.R_slice HO_y1.out; subst eox1; have px1 : 0 ≤ (0 : Int) := (by omega); have qx1 : 0 < (t102.length : Int) := odA; obtain ⟨adx1, ex1, hxx1⟩ := Kd.at_string (Kd.R_reads' HO_y1.out).2.2 0 px1 qx1; cases ex1; have qix1 : (0 < t102.length) = True := eq_true (by omega); (try rw [show ((0 : Int)).toNat = 0 from rfl] at hxx1); (try rw [Addr.add_zero'] at hxx1); replace px1 := eq_true px1; replace qx1 := eq_true qx1))
        go_roundg k1
        case measure => have := HKy1.out; omega
        case rel => exact ⟨(wrap64 (x5_1 + 1)), (x102000_1), (x102001_1), (x102002_1), rS, H', ⟨by have := HKy1.out; omega⟩, ⟨(rX HO_y1.out)⟩, ⟨(bX BKz1.out)⟩, ⟨(hX HB.out)⟩⟩
      rw [if_pos c8] at H
      obtain ⟨c8b0, c8b1⟩ := eqT c8
      clear c8
      have HC9 := aM H
      clear H
      go_upto_region 9 with (first | ((with_reducible refine gate_callee (f := 33) rfl ?_); refine goesM 33 19 Tryd.func33 #[.int .i64 x5_1] ?_; refine (impl_opWord.calls _ _ _ _ _ A6.out).mono ?_; rintro e w' ⟨rfl, ⟨nd, rfl⟩⟩; refine ⟨_, rfl, ?_⟩; (try (rw [drewN_self wr]; generalize hq_ : World.drewN wr _ = wr; have nx1 : Aside0 (Kd.R Kd.string 9 wr w.heap.size (fun _ => True) vz1 t102) := ⟨by rw [← hq_]; exact (rX HO_y1.out)⟩; have nx2 : Aside0 (wr.heap[gbz1]? = some (.cells #[.int .i64 x102000_1, .int .i64 x102001_1, .int .i64 x102002_1] 23 (0, 0))) := ⟨by rw [← hq_]; exact (bX BKz1.out)⟩; have nx3 : Aside0 (Below w.heap.size w wr) := ⟨by rw [← hq_]; exact (hX HB.out)⟩; clear HO_y1 BKz1 HB hq_; have HO_y1 := nx1; have BKz1 := nx2; have HB := nx3; clear nx1 nx2 nx3)); obtain ⟨Aox1, cox1, eox1⟩ := Kd.R_slice HO_y1.out; subst eox1; have px1 : 0 ≤ (0 : Int) := (by omega); have qx1 : 0 < (t102.length : Int) := odA; obtain ⟨adx1, ex1, hxx1⟩ := Kd.at_string (Kd.R_reads' HO_y1.out).2.2 0 px1 qx1; cases ex1; have qix1 : (0 < t102.length) = True := eq_true (by omega); (try rw [show ((0 : Int)).toNat = 0 from rfl] at hxx1); (try rw [Addr.add_zero'] at hxx1); replace px1 := eq_true px1; replace qx1 := eq_true qx1) | ((with_reducible refine gate_dst (N := 9) rfl ?_); (try (refine gate_guard (by rfl) ?_; dsimp only)); refine boxF 9 #[.int .i64 0, .int .i64 0, .int .i64 0] 23 ?_; intro gbx1 hg wx1 hbox hb; have BKx1 := aM (hbox); have GWx1 := aG hg HB; have GEx1 := aG hg HB; have NBx1 := aL hg BKz1; have NBx2 := aR hg BKz1; replace HO_y1 := aQ HO_y1 hb; replace BKz1 := aB BKz1 hb; replace HB := aS HB hb; clear hb hbox hg; have hnbx1 := NBx2.out; have hncx1 := NBx1.out; obtain ⟨hczx1, hczx2, hczx3, hfzx1, hfzx2, hfzx3⟩ := cZ3 BKx1.out))
      (try simp only [Act.put, List.setIfInBounds_toArray, List.set_cons_zero, List.set_cons_succ])
      go_cut [36] (fun vx1 wc => ∃ (kq : Nat) (x36_8 : Bool), vx1 = .bool x36_8 ∧ Aside0 (impl_OpOf.j1 kq a0 t102 t107 1 x36_8 x5_1 0 0 = some (r1, r2, r3, r4)) ∧ Aside0 (kq ≤ k1) ∧ Aside0 (Kd.R Kd.string 9 wc w.heap.size (fun _ => True) (.slice (some adx1) t102.length cox1) t102) ∧ Aside0 (wc.heap[gbz1]? = some (.cells #[.int .i64 x102000_1, .int .i64 x102001_1, .int .i64 x102002_1] 23 (0, 0))) ∧ Aside0 (wc.heap[gbx1]? = some (.cells #[.int .i64 x5_1, .int .i64 0, .int .i64 0] 23 (0, 0))) ∧ Aside0 (Below w.heap.size w wc))
      case first =>
        have H := HC9.out
        clear HC9
        by_cases c14 : t106 = true
        · subst c14
          rw [if_pos rfl] at H
          have H' := aM H
          clear H
          go_wp2
          go_meet
          case rel => exact ⟨_, (decide (1 < (t102.length : Int))), rS, H', ⟨by have := HKy1.out; first | omega | exact Nat.le_refl _⟩, ⟨(rT (h := by exact Kd.R_mono (Kd.R_far (p := ⟨gbx1, 2, none⟩) (Kd.R_far (p := ⟨gbx1, 1, none⟩) (Kd.R_far (p := ⟨gbx1, 0, none⟩) (Kd.R_types HO_y1.out BKx1.out (by decide)) (fun _ hk => hk.2) (.int .i64 x5_1)) (fun _ hk => hk.2) (.int .i64 0)) (fun _ hk => hk.2) (.int .i64 0)) (fun _ hk => trivial)))⟩, ⟨(bF BKz1.out)⟩, ⟨(bP BKx1.out)⟩, ⟨(hX HB.out)⟩⟩
        replace c14 := Bool.eq_false_iff.mpr c14
        subst c14
        rw [if_neg nft] at H
        have H' := aM H
        clear H
        go_wp2
        go_meet
        case rel => exact ⟨_, (false), rS, H', ⟨by have := HKy1.out; first | omega | exact Nat.le_refl _⟩, ⟨(rT (h := by exact Kd.R_mono (Kd.R_far (p := ⟨gbx1, 2, none⟩) (Kd.R_far (p := ⟨gbx1, 1, none⟩) (Kd.R_far (p := ⟨gbx1, 0, none⟩) (Kd.R_types HO_y1.out BKx1.out (by decide)) (fun _ hk => hk.2) (.int .i64 x5_1)) (fun _ hk => hk.2) (.int .i64 0)) (fun _ hk => hk.2) (.int .i64 0)) (fun _ hk => trivial)))⟩, ⟨(bF BKz1.out)⟩, ⟨(bP BKx1.out)⟩, ⟨(hX HB.out)⟩⟩
      case rest =>
        clear HC9
        try clear p1
        try clear q1
        try clear hx1
        try clear qi1
        try clear p2
        try clear c5
        try clear c5b0
        try clear p6
        try clear c7
        try clear c7b0
        try clear c7b1
        try clear c8
        try clear c8b0
        try clear c8b1
        try clear p10
        try clear q10
        try clear hx10
        try clear qi10
        try clear hczx1 hczx2 hczx3 hfzx1 hfzx2 hfzx3
        try clear hxx1
        try clear px1
        try clear qx1
        obtain ⟨kq, x36_8, rfl, HA, HJw1, HO_y1, BKz1, BKx1, HB⟩ := hcut
        cases kq with
        | zero => exact absurd HA.out (by simp [impl_OpOf.j1])
        | succ kj8 =>
          have H := HA.out
          clear HA
          simp only [impl_OpOf.j1] at H
          have HC15 := aM H
          clear H
          go_upto_if 36 with (fail)
          go_cut [10] (fun vv1 wc => ∃ (kq : Nat) (x10_14 : Int) (x110001_14 : Int), vv1 = .int .i64 x10_14 ∧ Aside0 (impl_OpOf.j2 kq a0 t102 t107 x10_14 x5_1 x110001_14 0 = some (r1, r2, r3, r4)) ∧ Aside0 (kq ≤ kj8) ∧ Aside0 (Kd.R Kd.string 9 wc w.heap.size (fun _ => True) (.slice (some adx1) t102.length cox1) t102) ∧ Aside0 (wc.heap[gbz1]? = some (.cells #[.int .i64 x102000_1, .int .i64 x102001_1, .int .i64 x102002_1] 23 (0, 0))) ∧ Aside0 (wc.heap[gbx1]? = some (.cells #[.int .i64 x5_1, .int .i64 x110001_14, .int .i64 0] 23 (0, 0))) ∧ Aside0 (Below w.heap.size w wc))
          case first =>
            have H := HC15.out
            clear HC15
            by_cases c16 : x36_8 = true
            case neg =>
              replace c16 := Bool.eq_false_iff.mpr c16
              subst c16
              rw [if_neg nft] at H
              have H' := aM H
              clear H
              go_wp2
              go_meet
              case rel => exact ⟨_, (1), (0), rS, H', ⟨by have := HKy1.out; have := HJw1.out; first | omega | exact Nat.le_refl _⟩, ⟨(rX HO_y1.out)⟩, ⟨(bX BKz1.out)⟩, ⟨(bX BKx1.out)⟩, ⟨(hX HB.out)⟩⟩
            subst c16
            rw [if_pos rfl] at H
            replace H := ifP H; obtain ⟨c17, H⟩ := H
            have c17b0 := decide_eq_true c17
            clear c17
            (first | rw [c17b0] | (simp only [i64_w, i32_w]; rw [c17b0]) | skip)
            replace H := ifP H; obtain ⟨c18, H⟩ := H
            have c18b0 := decide_eq_true c18
            have c18b1 : decide (1 < t102.length) = true := decide_eq_true (by omega)
            clear c18
            replace H := bE H; obtain ⟨⟨t111, t112⟩, A19, H⟩ := H
            try dsimp only at H
            have H' := aM H
            clear H
            have pu1 : 0 ≤ (1 : Int) := (by omega)
            have qu1 : 1 < (t102.length : Int) := odA
            obtain ⟨adu1, eu1, hxu1⟩ := Kd.at_string (Kd.R_reads' HO_y1.out).2.2 1 pu1 qu1
            obtain rfl : adx1 = adu1 := (by injection eu1)
            (try simp only [show (1 : Int).toNat = 1 from rfl, Nat.reduceMul, Nat.reduceEqDiff, Go.Addr.add, ↓reduceIte] at hxu1)
            have qiu1 : (1 < t102.length) = True := eq_true (by omega)
            (try rw [show ((1 : Int)).toNat = 1 from rfl] at hxu1)
            replace pu1 := eq_true pu1
            replace qu1 := eq_true qu1
            go_wp2_with (first | (refine goesM 34 42 Tryd.func34 #[.string (rdOf ByteArray.empty t102 1)] ?_; refine (impl_Number.calls _ _ _ _ _ A19.out).mono ?_; rintro e w' ⟨rfl, ⟨nd, rfl⟩⟩; refine ⟨_, rfl, ?_⟩; (try (rw [drewN_self wc]; generalize hq_ : World.drewN wc _ = wc; have nx1 : Aside0 (Kd.R Kd.string 9 wc w.heap.size (fun _ => True) (.slice (some adx1) t102.length cox1) t102) := ⟨by rw [← hq_]; exact (rX HO_y1.out)⟩; have nx2 : Aside0 (wc.heap[gbz1]? = some (.cells #[.int .i64 x102000_1, .int .i64 x102001_1, .int .i64 x102002_1] 23 (0, 0))) := ⟨by rw [← hq_]; exact (bX BKz1.out)⟩; have nx3 : Aside0 (wc.heap[gbx1]? = some (.cells #[.int .i64 x5_1, .int .i64 0, .int .i64 0] 23 (0, 0))) := ⟨by rw [← hq_]; exact (bX BKx1.out)⟩; have nu1 : Aside0 (Below w.heap.size w wc) := ⟨by rw [← hq_]; exact (hX HB.out)⟩; clear HO_y1 BKz1 BKx1 HB hq_; have HO_y1 := nx1; have BKz1 := nx2; have BKx1 := nx3; have HB := nu1; clear nx1 nx2 nx3 nu1)); have hnbu1 := NBx2.out; have hncu1 := NBx1.out; obtain ⟨hczu1, hczu2, hczu3, hfzu1, hfzu2, hfzu3⟩ := cZ3 BKx1.out))
            go_meet
            case rel => exact ⟨_, (wrap64 (1 + 1)), (t111), (by simp [wrap64]), H', ⟨by have := HKy1.out; have := HJw1.out; first | omega | exact Nat.le_refl _⟩, ⟨(rT (h := by exact Kd.R_mono (Kd.R_far (p := ⟨gbx1, 1, none⟩) (Kd.R_types HO_y1.out BKx1.out (by decide)) (fun _ hk => hk.2) (.int .i64 t111)) (fun _ hk => trivial)))⟩, ⟨(bF BKz1.out)⟩, ⟨(bP BKx1.out)⟩, ⟨(hX HB.out)⟩⟩
          case rest =>
            clear HC15
            try clear p1
            try clear q1
            try clear hx1
            try clear qi1
            try clear p2
            try clear c5
            try clear c5b0
            try clear p6
            try clear c7
            try clear c7b0
            try clear c7b1
            try clear c8
            try clear c8b0
            try clear c8b1
            try clear p10
            try clear q10
            try clear hx10
            try clear qi10
            try clear p11
            try clear q11
            try clear hx11
            try clear qi11
            try clear hczx1 hczx2 hczx3 hfzx1 hfzx2 hfzx3
            try clear hxx1
            try clear hx110_0
            try clear px1
            try clear p110
            try clear qx1
            try clear q110
            obtain ⟨kq, x10_14, x110001_14, rfl, HA, HJu1, HO_y1, BKz1, BKx1, HB⟩ := hcut
            cases kq with
            | zero => exact absurd HA.out (by simp [impl_OpOf.j2])
            | succ kj14 =>
              have H := HA.out
              clear HA
              simp only [impl_OpOf.j2] at H
              have HC22 := aM H
              clear H
              go_upto_region 12 with (fail)
              go_cut [54] (fun vt1 wc => ∃ (kq : Nat) (x54_21 : Bool), vt1 = .bool x54_21 ∧ Aside0 (impl_OpOf.j3 kq a0 t102 x10_14 x54_21 x5_1 x110001_14 0 = some (r1, r2, r3, r4)) ∧ Aside0 (kq ≤ kj14) ∧ Aside0 (Kd.R Kd.string 9 wc w.heap.size (fun _ => True) (.slice (some adx1) t102.length cox1) t102) ∧ Aside0 (wc.heap[gbz1]? = some (.cells #[.int .i64 x102000_1, .int .i64 x102001_1, .int .i64 x102002_1] 23 (0, 0))) ∧ Aside0 (wc.heap[gbx1]? = some (.cells #[.int .i64 x5_1, .int .i64 x110001_14, .int .i64 0] 23 (0, 0))) ∧ Aside0 (Below w.heap.size w wc))
              case first =>
                have H := HC22.out
                clear HC22
                by_cases c23 : t107 = true
                · subst c23
                  rw [if_pos rfl] at H
                  have H' := aM H
                  clear H
                  go_wp2
                  go_meet
                  case rel => exact ⟨_, (decide (x10_14 < (t102.length : Int))), rS, H', ⟨by have := HKy1.out; have := HJw1.out; have := HJu1.out; first | omega | exact Nat.le_refl _⟩, ⟨(rX HO_y1.out)⟩, ⟨(bX BKz1.out)⟩, ⟨(bX BKx1.out)⟩, ⟨(hX HB.out)⟩⟩
                replace c23 := Bool.eq_false_iff.mpr c23
                subst c23
                rw [if_neg nft] at H
                have H' := aM H
                clear H
                go_wp2
                go_meet
                case rel => exact ⟨_, (false), rS, H', ⟨by have := HKy1.out; have := HJw1.out; have := HJu1.out; first | omega | exact Nat.le_refl _⟩, ⟨(rX HO_y1.out)⟩, ⟨(bX BKz1.out)⟩, ⟨(bX BKx1.out)⟩, ⟨(hX HB.out)⟩⟩
              case rest =>
                clear HC22
                try clear p1
                try clear q1
                try clear hx1
                try clear qi1
                try clear p2
                try clear c5
                try clear c5b0
                try clear p6
                try clear c7
                try clear c7b0
                try clear c7b1
                try clear c8
                try clear c8b0
                try clear c8b1
                try clear p10
                try clear q10
                try clear hx10
                try clear qi10
                try clear p11
                try clear q11
                try clear hx11
                try clear qi11
                try clear hczx1 hczx2 hczx3 hfzx1 hfzx2 hfzx3
                try clear hxx1
                try clear hx110_0
                try clear px1
                try clear p110
                try clear qx1
                try clear q110
                obtain ⟨kq, x54_21, rfl, HA, HJs1, HO_y1, BKz1, BKx1, HB⟩ := hcut
                cases kq with
                | zero => exact absurd HA.out (by simp [impl_OpOf.j3])
                | succ kj21 =>
                  have H := HA.out
                  clear HA
                  simp only [impl_OpOf.j3] at H
                  have HC24 := aM H
                  clear H
                  go_upto_if 54 with (fail)
                  go_cut [] (fun wc => ∃ (kq : Nat) (x110002_23 : Int), Aside0 (impl_OpOf.j4 kq a0 x5_1 x110001_14 x110002_23 = some (r1, r2, r3, r4)) ∧ Aside0 (kq ≤ kj21) ∧ Aside0 (wc.heap[gbz1]? = some (.cells #[.int .i64 x102000_1, .int .i64 x102001_1, .int .i64 x102002_1] 23 (0, 0))) ∧ Aside0 (wc.heap[gbx1]? = some (.cells #[.int .i64 x5_1, .int .i64 x110001_14, .int .i64 x110002_23] 23 (0, 0))) ∧ Aside0 (Below w.heap.size w wc))
                  case first =>
                    have H := HC24.out
                    clear HC24
                    by_cases c25 : x54_21 = true
                    case neg =>
                      replace c25 := Bool.eq_false_iff.mpr c25
                      subst c25
                      rw [if_neg nft] at H
                      have H' := aM H
                      clear H
                      go_wp2
                      go_meet
                      case rel => exact ⟨_, (0), H', ⟨by have := HKy1.out; have := HJw1.out; have := HJu1.out; have := HJs1.out; first | omega | exact Nat.le_refl _⟩, ⟨(bX BKz1.out)⟩, ⟨(bX BKx1.out)⟩, ⟨(hX HB.out)⟩⟩
                    subst c25
                    rw [if_pos rfl] at H
                    replace H := ifP H; obtain ⟨c26, H⟩ := H
                    have c26b0 := decide_eq_true c26
                    clear c26
                    (first | rw [c26b0] | (simp only [i64_w, i32_w]; rw [c26b0]) | skip)
                    replace H := ifP H; obtain ⟨c27, H⟩ := H
                    have c27b0 := decide_eq_true c27
                    clear c27
                    replace H := bE H; obtain ⟨⟨t114, t115⟩, A28, H⟩ := H
                    try dsimp only at H
                    have H' := aM H
                    clear H
                    have pq1 : 0 ≤ (x10_14 : Int) := odA
                    have qq1 : x10_14 < (t102.length : Int) := odA
                    obtain ⟨adq1, eq1, hxq1⟩ := Kd.at_string (Kd.R_reads' HO_y1.out).2.2 x10_14 pq1 qq1
                    obtain rfl : adx1 = adq1 := (by injection eq1)
                    replace pq1 := eq_true pq1
                    replace qq1 := eq_true qq1
                    go_wp2_with (first | (refine goesM 34 60 Tryd.func34 #[.string (rdOf ByteArray.empty t102 x10_14)] ?_; refine (impl_Number.calls _ _ _ _ _ A28.out).mono ?_; rintro e w' ⟨rfl, ⟨nd, rfl⟩⟩; refine ⟨_, rfl, ?_⟩; (try (rw [drewN_self wc]; generalize hq_ : World.drewN wc _ = wc; have nx1 : Aside0 (Kd.R Kd.string 9 wc w.heap.size (fun _ => True) (.slice (some adx1) t102.length cox1) t102) := ⟨by rw [← hq_]; exact (rX HO_y1.out)⟩; have nx2 : Aside0 (wc.heap[gbz1]? = some (.cells #[.int .i64 x102000_1, .int .i64 x102001_1, .int .i64 x102002_1] 23 (0, 0))) := ⟨by rw [← hq_]; exact (bX BKz1.out)⟩; have nx3 : Aside0 (wc.heap[gbx1]? = some (.cells #[.int .i64 x5_1, .int .i64 x110001_14, .int .i64 0] 23 (0, 0))) := ⟨by rw [← hq_]; exact (bX BKx1.out)⟩; have nq1 : Aside0 (Below w.heap.size w wc) := ⟨by rw [← hq_]; exact (hX HB.out)⟩; clear HO_y1 BKz1 BKx1 HB hq_; have HO_y1 := nx1; have BKz1 := nx2; have BKx1 := nx3; have HB := nq1; clear nx1 nx2 nx3 nq1)); have hnbq1 := NBx2.out; have hncq1 := NBx1.out; obtain ⟨hczq1, hczq2, hczq3, hfzq1, hfzq2, hfzq3⟩ := cZ3 BKx1.out))
                    go_meet
                    case rel => exact ⟨_, (t114), H', ⟨by have := HKy1.out; have := HJw1.out; have := HJu1.out; have := HJs1.out; first | omega | exact Nat.le_refl _⟩, ⟨(bF BKz1.out)⟩, ⟨(bP BKx1.out)⟩, ⟨(hX HB.out)⟩⟩
                  case rest =>
                    clear HC24
                    try clear p1
                    try clear q1
                    try clear hx1
                    try clear qi1
                    try clear p2
                    try clear c5
                    try clear c5b0
                    try clear p6
                    try clear c7
                    try clear c7b0
                    try clear c7b1
                    try clear c8
                    try clear c8b0
                    try clear c8b1
                    try clear p10
                    try clear q10
                    try clear hx10
                    try clear qi10
                    try clear p11
                    try clear q11
                    try clear hx11
                    try clear qi11
                    try clear hczx1 hczx2 hczx3 hfzx1 hfzx2 hfzx3
                    try clear hxx1
                    try clear hx110_0
                    try clear hx113_0
                    try clear px1
                    try clear p110
                    try clear p113
                    try clear qx1
                    try clear q110
                    try clear q113
                    obtain ⟨kq, x110002_23, HA, HJq1, BKz1, BKx1, HB⟩ := hcut
                    cases kq with
                    | zero => exact absurd HA.out (by simp [impl_OpOf.j4])
                    | succ kj23 =>
                      have H := HA.out
                      clear HA
                      simp only [impl_OpOf.j4] at H
                      replace H := bE H; obtain ⟨t116, A31, H⟩ := H
                      by_cases c32 : t116 = true
                      case neg =>
                        replace c32 := Bool.eq_false_iff.mpr c32
                        subst c32
                        rw [if_neg nft] at H
                        simp only [Option.some.injEq, Prod.mk.injEq] at H
                        obtain ⟨rfl, rfl, rfl, rfl⟩ := H
                        have hnbp1 := NBx2.out
                        have hncp1 := NBx1.out
                        obtain ⟨hczp1, hczp2, hczp3, hfzp1, hfzp2, hfzp3⟩ := cZ3 BKx1.out
                        go_wp2_with (first | (refine goesM 26 65 Tryd.func26 #[.agg #[.int .i64 x5_1, .int .i64 x110001_14, .int .i64 x110002_23]] ?_; refine (impl_OpOk.calls _ _ _ _ _ _ A31.out).mono ?_; rintro e wp1 ⟨rfl, hb⟩; refine ⟨_, rfl, ?_⟩; replace BKz1 := aB BKz1 hb; replace BKx1 := aB BKx1 hb; replace HB := aS HB hb; clear hb; obtain ⟨hczp4, hczp5, hczp6, hfzp4, hfzp5, hfzp6⟩ := cZ3 BKz1.out))
                        refine bodyPost_ret (results_ct rfl _ _ gbz1 23 #[.int .i64 0, .int .i64 0, .int .i64 0] (0, 0) _ rfl (bP BKz1.out) Tryd.underlying23 rfl (by kernel_rfl)) rfl ?_
                        exact ⟨rE, (hX HB.out)⟩
                      subst c32
                      rw [if_pos rfl] at H
                      replace H := bE H; obtain ⟨t117, A33, H⟩ := H
                      have hnbp1 := NBx2.out
                      have hncp1 := NBx1.out
                      obtain ⟨hczp1, hczp2, hczp3, hfzp1, hfzp2, hfzp3⟩ := cZ3 BKx1.out
                      go_wp2_with (first | (refine goesM 26 65 Tryd.func26 #[.agg #[.int .i64 x5_1, .int .i64 x110001_14, .int .i64 x110002_23]] ?_; refine (impl_OpOk.calls _ _ _ _ _ _ A31.out).mono ?_; rintro e wp1 ⟨rfl, hb⟩; refine ⟨_, rfl, ?_⟩; replace BKz1 := aB BKz1 hb; replace BKx1 := aB BKx1 hb; replace HB := aS HB hb; clear hb; obtain ⟨hczp4, hczp5, hczp6, hfzp4, hfzp5, hfzp6⟩ := cZ3 BKx1.out; refine Stop.out ?_))
                      refine ⟨?_⟩
                      by_cases c34 : t117.toList = a0.toList
                      case neg =>
                        rw [if_neg c34] at H
                        obtain ⟨c34b0, c34b1⟩ := eqF c34
                        simp only [Option.some.injEq, Prod.mk.injEq] at H
                        obtain ⟨rfl, rfl, rfl, rfl⟩ := H
                        go_wp2_with (first | (go_at_call 16; (with_reducible refine (impl_OpText.calls _ _ _ _ _ _ A33.out).mono ?_); rintro e wp2 ⟨rfl, hb⟩; replace BKz1 := aB BKz1 hb; replace BKx1 := aB BKx1 hb; replace HB := aS HB hb; clear hb; obtain ⟨hczp7, hczp8, hczp9, hfzp7, hfzp8, hfzp9⟩ := cZ3 BKz1.out))
                        refine bodyPost_ret (results_ct rfl _ _ gbz1 23 #[.int .i64 0, .int .i64 0, .int .i64 0] (0, 0) _ rfl (bP BKz1.out) Tryd.underlying23 rfl (by kernel_rfl)) rfl ?_
                        exact ⟨rE, (hX HB.out)⟩
                      rw [if_pos c34] at H
                      obtain ⟨c34b0, c34b1⟩ := eqT c34
                      clear c34
                      simp only [Option.some.injEq, Prod.mk.injEq] at H
                      obtain ⟨rfl, rfl, rfl, rfl⟩ := H
                      go_wp2_with (first | (go_at_call 16; (with_reducible refine (impl_OpText.calls _ _ _ _ _ _ A33.out).mono ?_); rintro e wp2 ⟨rfl, hb⟩; replace BKz1 := aB BKz1 hb; replace BKx1 := aB BKx1 hb; replace HB := aS HB hb; clear hb; obtain ⟨hczp7, hczp8, hczp9, hfzp7, hfzp8, hfzp9⟩ := cZ3 BKx1.out; obtain ⟨hczp10, hczp11, hczp12, hfzp10, hfzp11, hfzp12⟩ := cZ3 BKz1.out))
                      refine bodyPost_ret (results_ct rfl _ _ gbz1 23 #[.int .i64 x5_1, .int .i64 x110001_14, .int .i64 x110002_23] (0, 0) _ rfl (bP BKz1.out) Tryd.underlying23 rfl (by kernel_rfl)) rfl ?_
                      exact ⟨rE, (hX HB.out)⟩
def impl_ProgOf.l0 : Nat → List (S23) → List ByteArray → Int → Int → Option ((List (S23)) × Bool)
  | 0, _, _, _, _ => none
  | k + 1, x4, x14, x15, x16 => if x16 < x15 then (if 0 ≤ x16 then (if x16 < (x14.length : Int) then ((impl_OpOf.f k (rdOf ByteArray.empty x14 x16)).bind fun bt108 => (if bt108.2.2.2 = true then (if (x4.length : Int) = 8 then (some (([] : List (S23)), false)) else (if x4.length < 5864062014805 then (impl_ProgOf.l0 k (x4 ++ [(⟨bt108.1, bt108.2.1, bt108.2.2.1⟩ : S23)]) x14 x15 (wrap64 (x16 + 1))) else (none))) else (some (([] : List (S23)), false)))) else (none)) else (none)) else (some (x4, true))
def impl_ProgOf.f (k : Nat) (a0 : ByteArray) : Option ((List (S23)) × Bool) := (some (([] : List (S23)) : List (S23))).bind fun y101 => (if a0.toList = ([] : List UInt8) then (some (y101, true)) else ((impl_Split.f a0 59).bind fun t104 => (impl_ProgOf.l0 k y101 t104 (t104.length : Int) 0)))
set_option maxHeartbeats 8000000 in
set_option maxRecDepth 100000 in
theorem impl_ProgOf.calls (k : Nat) (a0 : ByteArray) (r1 : List (S23)) (r2 : Bool) (w : World) (h : impl_ProgOf.f k a0 = some (r1, r2)) :
    Calls Tryd.prog 10 #[.string a0] w fun e w' => ∃ v0_ : Value, e = .returned (.tuple #[v0_, .bool r2]) ∧ Kd.R k23 23 w' w.heap.size (fun _ => True) v0_ r1 ∧ Below w.heap.size w w' := by
  have hu23 := Tryd.underlying23
  have HB := aM (Below.refl w.heap.size w)
  have H := h
  unfold impl_ProgOf.f at H
  clear h
  replace H := sE H; obtain ⟨y101, Ny101, H⟩ := H
  go_enter Tryd.func10, Tryd.ntmps10
  go_wp2_with (first | ((with_reducible refine gate_dst (N := 9) rfl ?_); (try (refine gate_guard (by rfl) ?_; dsimp only)); refine Kd.R_lit k23 _ 23 ?hg (N := 9) ?hd (xs := ([] : List (S23))) (inner := []) (ok := fun _ => True) (okp := fun _ => True) ?hr ?hp (fun _ hk => hk) trivial (Below.refl _ _) (Nat.le_refl _) (by simp) ?_; (case hd => rfl); (case hg => rfl); (case hr => first | (go_simp; done) | (go_simp; rfl)); (case hp => exact (Reps.none _ _)); intro vz1 wz1 hoz1 hb hg_ hnew_; clear hg_ hnew_; (first | rw [← Ny101.out] at hoz1 | (simp only [Int.reduceToNat] at hoz1; rw [← Ny101.out] at hoz1)); have HOz1 := aM (Kd.R_lower hoz1 (below_size (hX HB.out))); replace HB := aS HB hb; clear hb hoz1; refine Stop.out ?_))
  refine ⟨?_⟩
  by_cases c2 : a0.toList = ([] : List UInt8)
  · rw [if_pos c2] at H
    obtain ⟨c2b0, c2b1⟩ := eqT c2
    clear c2
    simp only [Option.some.injEq, Prod.mk.injEq] at H
    obtain ⟨rfl, rfl⟩ := H
    go_wp2
    go_ret2
    exact ⟨_, rE, (rX HOz1.out), (hX HB.out)⟩
  rw [if_neg c2] at H
  obtain ⟨c2b0, c2b1⟩ := eqF c2
  replace H := bE H; obtain ⟨t104, A5, H⟩ := H
  have H' := aM H
  clear H
  go_wp2_with (first | (refine goesM 32 14 Tryd.func32 #[.string a0, .int .u8 59] ?_; refine (impl_Split.calls _ _ _ _ A5.out).mono ?_; rintro e wz2 ⟨vz2, rfl, hoz2, hb⟩; refine ⟨_, rfl, ?_⟩; have HOz2 := aM (Kd.R_lower hoz2 (below_size (hX HB.out))); replace HOz1 := aQ HOz1 hb; replace HB := aS HB hb; clear hb hoz2; obtain ⟨Aoz1, coz1, eoz1⟩ := Kd.R_slice HOz2.out; subst eoz1))
  go_loopg [4, 16] k (fun kq v4 v16 w' => ∃ (x4_1 : List (S23)) (x16_1 : Int), v16 = .int .i64 x16_1 ∧ Aside0 (impl_ProgOf.l0 kq x4_1 t104 (t104.length : Int) x16_1 = some (r1, r2)) ∧ Aside0 (kq ≤ k) ∧ Aside0 (Kd.R k23 23 w' w.heap.size (fun _ => True) v4 x4_1) ∧ Aside0 (Kd.R Kd.string 9 w' w.heap.size (fun _ => True) (.slice Aoz1 t104.length coz1) t104) ∧ Aside0 (Below w.heap.size w w'))
  case atStart => exact ⟨(y101), (0), rS, H', ⟨Nat.le_refl _⟩, ⟨(rX HOz1.out)⟩, ⟨(rX HOz2.out)⟩, ⟨(hX HB.out)⟩⟩
  case round =>
    clear H'
    try clear c2
    try clear c2b0
    try clear c2b1
    try clear p2
    obtain ⟨x4_1, x16_1, rfl, HA, HKy1, HO_y1, HO_y2, HB⟩ := hrel
    cases gk with
    | zero => exact absurd HA.out (by simp [impl_ProgOf.l0])
    | succ k1 =>
      have H := HA.out
      clear HA
      simp only [impl_ProgOf.l0] at H
      by_cases c10 : x16_1 < (t104.length : Int)
      case neg =>
        rw [if_neg c10] at H
        have c10b0 := decide_eq_false c10
        clear c10
        simp only [Option.some.injEq, Prod.mk.injEq] at H
        obtain ⟨rfl, rfl⟩ := H
        go_wp2
        go_ret2
        exact ⟨_, rE, (rX HO_y1.out), (hX HB.out)⟩
      rw [if_pos c10] at H
      have c10b0 := decide_eq_true c10
      clear c10
      replace H := ifP H; obtain ⟨c11, H⟩ := H
      have c11b0 := decide_eq_true c11
      clear c11
      replace H := ifP H; obtain ⟨c12, H⟩ := H
      have c12b0 := decide_eq_true c12
      clear c12
      replace H := bE H; obtain ⟨⟨t108, t109, t110, t111⟩, A13, H⟩ := H
      try dsimp only at H
      by_cases c14 : t111 = true
      case neg =>
        replace c14 := Bool.eq_false_iff.mpr c14
        subst c14
        rw [if_neg nft] at H
        simp only [Option.some.injEq, Prod.mk.injEq] at H
        obtain ⟨rfl, rfl⟩ := H
        have px1 : 0 ≤ (x16_1 : Int) := odA
        have qx1 : x16_1 < (t104.length : Int) := odA
        obtain ⟨adx1, ex1, hxx1⟩ := Kd.at_string (Kd.R_reads' HO_y2.out).2.2 x16_1 px1 qx1
        cases ex1
        replace px1 := eq_true px1
        replace qx1 := eq_true qx1
        go_wp2_with (first | (refine goesM 7 22 Tryd.func7 #[.string (rdOf ByteArray.empty t104 x16_1)] ?_; refine (impl_OpOf.calls _ _ _ _ _ _ _ A13.out).mono ?_; rintro e wx1 ⟨rfl, hb⟩; refine ⟨_, rfl, ?_⟩; replace HO_y1 := aQ HO_y1 hb; replace HO_y2 := aQ HO_y2 hb; replace HB := aS HB hb; clear hb) | ((with_reducible refine gate_dst (N := 7) rfl ?_); (try (refine gate_guard (by rfl) ?_; dsimp only)); refine boxF 7 #[.int .i64 0, .int .i64 0, .int .i64 0] 23 ?_; intro gbx1 hg wx2 hbox hb; have BKx1 := aM (hbox); have GWx1 := aG hg HB; have GEx1 := aG hg HB; replace HO_y1 := aM (Kd.R_below (Kd.R_elderB (rX HO_y1.out) gbx1 (Nat.le_of_eq hg.symm)) hb); replace HO_y2 := aQ HO_y2 hb; replace HB := aS HB hb; clear hb hbox hg; obtain ⟨hczx1, hczx2, hczx3, hfzx1, hfzx2, hfzx3⟩ := cZ3 BKx1.out))
        go_ret2
        exact ⟨(Value.slice none 0 0), rE, (by first | exact Kd.R_nil _ _ _ _ _ | exact Kd.S_nil _ _ _ _ _ | exact Kd.V_nil _ _ _ _ _ | exact Kd.N_nil _ _ _ _ _ | exact Kd.Q_nil _ _ _ _ _), (hX HB.out)⟩
      subst c14
      rw [if_pos rfl] at H
      have px1 : 0 ≤ (x16_1 : Int) := odA
      have qx1 : x16_1 < (t104.length : Int) := odA
      obtain ⟨adx1, ex1, hxx1⟩ := Kd.at_string (Kd.R_reads' HO_y2.out).2.2 x16_1 px1 qx1
      cases ex1
      replace px1 := eq_true px1
      replace qx1 := eq_true qx1
      go_wp2_with (first | (refine goesM 7 22 Tryd.func7 #[.string (rdOf ByteArray.empty t104 x16_1)] ?_; refine (impl_OpOf.calls _ _ _ _ _ _ _ A13.out).mono ?_; rintro e wx1 ⟨rfl, hb⟩; refine ⟨_, rfl, ?_⟩; replace HO_y1 := aQ HO_y1 hb; replace HO_y2 := aQ HO_y2 hb; replace HB := aS HB hb; clear hb) | ((with_reducible refine gate_dst (N := 7) rfl ?_); (try (refine gate_guard (by rfl) ?_; dsimp only)); refine boxF 7 #[.int .i64 0, .int .i64 0, .int .i64 0] 23 ?_; intro gbx1 hg wx2 hbox hb; have BKx1 := aM (hbox); have GWx1 := aG hg HB; have GEx1 := aG hg HB; replace HO_y1 := aM (Kd.R_below (Kd.R_elderB (rX HO_y1.out) gbx1 (Nat.le_of_eq hg.symm)) hb); replace HO_y2 := aQ HO_y2 hb; replace HB := aS HB hb; clear hb hbox hg; obtain ⟨hczx1, hczx2, hczx3, hfzx1, hfzx2, hfzx3⟩ := cZ3 BKx1.out; obtain ⟨Aox1, cox1, eox1⟩ := Kd.R_slice HO_y1.out; subst eox1; refine Stop.out ?_))
      refine ⟨?_⟩
      by_cases c15 : (x4_1.length : Int) = 8
      · rw [if_pos c15] at H
        obtain ⟨c15b0, c15b1⟩ := eqT c15
        clear c15
        simp only [Option.some.injEq, Prod.mk.injEq] at H
        obtain ⟨rfl, rfl⟩ := H
        go_wp2
        go_ret2
        exact ⟨(Value.slice none 0 0), rE, (by first | exact Kd.R_nil _ _ _ _ _ | exact Kd.S_nil _ _ _ _ _ | exact Kd.V_nil _ _ _ _ _ | exact Kd.N_nil _ _ _ _ _ | exact Kd.Q_nil _ _ _ _ _), (hX HB.out)⟩
      rw [if_neg c15] at H
      obtain ⟨c15b0, c15b1⟩ := eqF c15
      replace H := ifP H; obtain ⟨c20, H⟩ := H
      have LMc20 := aM c20
      clear c20
      obtain ⟨y113, hy113⟩ : ∃ y_ : List (S23), y_ = (x4_1 ++ [(⟨t108, t109, t110⟩ : S23)]) := ⟨_, rfl⟩
      replace H : (impl_ProgOf.l0 k1 y113 t104 (t104.length : Int) (wrap64 (x16_1 + 1))) = some (r1, r2) := yH H hy113
      have Ny113 := aM hy113
      clear hy113
      have H' := aM H
      clear H
      go_wp2_with (first | ((with_reducible refine gate_builtin (b := .append) (xs := #[.tmp 32, .tmp 34]) rfl ?_); (try (refine gate_guard (by rfl) ?_; dsimp only)); at_builtin; refine Kd.R_append k23 (w0 := w) w.heap.size rfl (.tmp 32) (.tmp 34) 28 23 (.agg #[(.int .i64 0), (.int .i64 0), (.int .i64 0)]) 24 rfl Tryd.underlying28 info23 rfl (by decide) (by omega) (.slice Aox1 x4_1.length cox1) x4_1 (⟨t108, t109, t110⟩ : S23) [.int .i64 t108, .int .i64 t109, .int .i64 t110] (fun k_ => k_ ≠ gbx1) (fun _ => False) rfl (by first | (go_simp; done) | (go_simp; rfl)) ?aP (fun _ hk => hk.elim) ?aF ?aO ?aB ?aS ?aL ?_; (case aP => exact k23_mkM _ _ _ (⟨t108, t109, t110⟩ : S23)); (case aB => exact (hX HB.out)); (case aF => exact (fun k_ hk => Kd.freshB (g := gbx1) (o := .cells #[.int .i64 t108, .int .i64 t109, .int .i64 t110] 23 (0, 0)) (bP BKx1.out) k_ hk)); (case aO => exact (rT (h := by exact Kd.R_mono (Kd.R_far (p := ⟨gbx1, 2, none⟩) (Kd.R_far (p := ⟨gbx1, 1, none⟩) (Kd.R_far (p := ⟨gbx1, 0, none⟩) (Kd.R_mono HO_y1.out (fun k_ hk => (⟨hk, hk.2⟩ : _ ∧ k_ ≠ gbx1))) (fun _ hk => hk.2) (.int .i64 t108)) (fun _ hk => hk.2) (.int .i64 t109)) (fun _ hk => hk.2) (.int .i64 t110)) (fun _ hk => hk.1.2)))); (case aS => exact (below_size (hX HB.out))); (case aL => have := LMc20.out; omega); intro vx1 wx3 ho hb hg hat; rw [← Ny113.out] at ho; have HOx1 := aM (ho); replace HO_y2 := aM (Kd.R_over' (rF HO_y2.out BKx1.out) (Kd.R_typed (rT (h := by exact (Kd.R_mono (Kd.R_far (p := ⟨gbx1, 2, none⟩) (Kd.R_far (p := ⟨gbx1, 1, none⟩) (Kd.R_far (p := ⟨gbx1, 0, none⟩) (Kd.R_mono HO_y1.out (fun k_ hk => (⟨hk, hk.2⟩ : _ ∧ k_ ≠ gbx1))) (fun _ hk => hk.2) (.int .i64 t108)) (fun _ hk => hk.2) (.int .i64 t109)) (fun _ hk => hk.2) (.int .i64 t110)) (fun _ h_ => h_.1))))) (by decide) hg); replace BKx1 := aM (blk_grown (g := gbx1) (o := .cells #[.int .i64 t108, .int .i64 t109, .int .i64 t110] 23 (0, 0)) (bP BKx1.out) hg (Kd.R_away HO_y1.out (fun _ hk => hk.2))); replace HB := aM (hb); clear HO_y1; clear ho hb hg hat))
      go_roundg k1
      case measure => have := HKy1.out; omega
      case rel => exact ⟨(y113), (wrap64 (x16_1 + 1)), rS, H', ⟨by have := HKy1.out; omega⟩, ⟨(rT (h := by exact Kd.R_mono HOx1.out (fun _ hk => trivial)))⟩, ⟨(rX HO_y2.out)⟩, ⟨(hX HB.out)⟩⟩
def laws_big.f (l0 : List Int) : Option (Bool) := some (decide ((l0.length : Int) > 1048576))
set_option maxHeartbeats 8000000 in
set_option maxRecDepth 100000 in
theorem laws_big.calls (A0 : Option Addr) (c0 : Nat) (l0 : List Int) (r : Bool) (w : World) (hr0 : Kd.C (Kd.int .u8) w A0 l0.length l0) (hc0 : l0.length ≤ c0) (h : laws_big.f l0 = some r) :
    Calls Tryd.prog 14 #[.slice A0 l0.length c0] w fun e w' => e = .returned (.bool r) ∧ Drawn0 w w' := by
  have HR0 := aM hr0
  have HC0 := aM hc0
  clear hr0 hc0
  have H := h
  unfold laws_big.f at H
  clear h
  obtain rfl := sI H
  go_enter Tryd.func14, Tryd.ntmps14
  go_wp2
  go_ret
  exact ⟨by first | rfl | (simp; done) | (simp [*]; done), dX⟩
def IsS72 (w0 W : World) (g : Nat) (f0 : List Int) (f1 : Int) (f2 : Int) : Prop := ∃ A0 c0, W.heap[g]? = some (.cells #[.slice A0 f0.length c0, .int .i64 f1, .int .i64 f2] 72 (0, 0)) ∧ w0.heap.size ≤ g ∧ Kd.C (Kd.int .u8) w0 A0 f0.length f0
theorem IsS72.grown {w0 W : World} {g : Nat} {f0 : List Int} {f1 : Int} {f2 : Int} {W1 : World} {row : Option Nat} (h : IsS72 w0 W g f0 f1 f2) (hw : W.grownBy W1 row) (hne : some g ≠ row) : IsS72 w0 W1 g f0 f1 f2 := by
  obtain ⟨A0, c0, hb, hg, hr0⟩ := h
  exact ⟨A0, c0, blk_grown hb hw hne, hg, hr0⟩
theorem IsS72.kept {w0 W : World} {g : Nat} {f0 : List Int} {f1 : Int} {f2 : Int} {W1 : World} {S : Nat → Prop} (h : IsS72 w0 W g f0 f1 f2) (hk : Kept W W1 S) (hne : ¬ S g) : IsS72 w0 W1 g f0 f1 f2 := by
  obtain ⟨A0, c0, hb, hg, hr0⟩ := h
  exact ⟨A0, c0, blk_kept hb hk hne, hg, hr0⟩
theorem IsS72.below {w0 W : World} {g : Nat} {f0 : List Int} {f1 : Int} {f2 : Int} {W1 : World} (h : IsS72 w0 W g f0 f1 f2) (hw : Below W.heap.size W W1) : IsS72 w0 W1 g f0 f1 f2 := h.grown (grown_of_below hw none) (by simp)
theorem IsS72.alloc {w0 W : World} {g : Nat} {f0 : List Int} {f1 : Int} {f2 : Int} (h : IsS72 w0 W g f0 f1 f2) (o : Obj) : IsS72 w0 (W.alloc o) g f0 f1 f2 := h.below (below_alloc (Below.refl _ _) o)
theorem IsS72.drewN {w0 W : World} {g : Nat} {f0 : List Int} {f1 : Int} {f2 : Int} (h : IsS72 w0 W g f0 f1 f2) (m : Nat) : IsS72 w0 (W.drewN m) g f0 f1 f2 := h
theorem IsS72.drew {w0 W : World} {g : Nat} {f0 : List Int} {f1 : Int} {f2 : Int} (h : IsS72 w0 W g f0 f1 f2) : IsS72 w0 W.drew g f0 f1 f2 := h
theorem IsS72.at_ {w0 W : World} {g : Nat} {f0 : List Int} {f1 : Int} {f2 : Int} {w' : World} {m : Nat} (hq : W.drewN m = w') (h : IsS72 w0 W g f0 f1 f2) : IsS72 w0 w' g f0 f1 f2 := by subst hq; exact IsS72.drewN h m
theorem IsS72.apart {w0 W : World} {g : Nat} {f0 : List Int} {f1 : Int} {f2 : Int} {α : Type} {d : Kd α} {e : Nat} {base : Nat} {ok : Nat → Prop} {v : Value} {xs : List α} (h : IsS72 w0 W g f0 f1 f2) (ho : d.R e W base ok v xs) (ht : ∀ q, q ∈ e :: d.E → q ≠ 72) : d.R e W base (fun k => ok k ∧ k ≠ g) v xs := by
  obtain ⟨A0, c0, hb, hg, hr0⟩ := h
  exact Kd.R_types ho hb ht
theorem IsS72.own_ne {w0 W : World} {g : Nat} {f0 : List Int} {f1 : Int} {f2 : Int} {α : Type} {d : Kd α} {e : Nat} {base : Nat} {ok : Nat → Prop} {v : Value} {xs : List α} (h : IsS72 w0 W g f0 f1 f2) (ho : d.R e W base ok v xs) (ht : e ≠ 72) : some g ≠ v.ownBlock := by
  obtain ⟨A0, c0, hb, hg, hr0⟩ := h
  exact Kd.R_ne ho hb ht
theorem IsS72.apartS {w0 W : World} {g : Nat} {f0 : List Int} {f1 : Int} {f2 : Int} {α : Type} {d : Kd α} {e : Nat} {base : Nat} {ok : Nat → Prop} {v : Value} {xs : List α} (h : IsS72 w0 W g f0 f1 f2) (ho : d.S e W base ok v xs) (ht : ∀ q, q ∈ e :: d.E → q ≠ 72) : d.S e W base (fun k => ok k ∧ k ≠ g) v xs := by
  obtain ⟨A0, c0, hb, hg, hr0⟩ := h
  exact Kd.S_types ho hb ht
theorem IsS72.own_neS {w0 W : World} {g : Nat} {f0 : List Int} {f1 : Int} {f2 : Int} {α : Type} {d : Kd α} {e : Nat} {base : Nat} {ok : Nat → Prop} {v : Value} {xs : List α} (h : IsS72 w0 W g f0 f1 f2) (ho : d.S e W base ok v xs) (ht : e ≠ 72) : some g ≠ v.ownBlock := by
  obtain ⟨A0, c0, hb, hg, hr0⟩ := h
  exact Kd.S_ne ho hb ht
theorem IsS72.lt {w0 W : World} {g : Nat} {f0 : List Int} {f1 : Int} {f2 : Int} (h : IsS72 w0 W g f0 f1 f2) : g < W.heap.size := by
  obtain ⟨A0, c0, hb, hg, hr0⟩ := h
  exact blk_lt hb
theorem IsS72.ge {w0 W : World} {g : Nat} {f0 : List Int} {f1 : Int} {f2 : Int} (h : IsS72 w0 W g f0 f1 f2) : w0.heap.size ≤ g := by
  obtain ⟨A0, c0, hb, hg, hr0⟩ := h
  exact hg
theorem IsS72.ne_blk {w0 W : World} {g : Nat} {f0 : List Int} {f1 : Int} {f2 : Int} {a : Nat} {cs : Array Value} {t : TypeId} {fr : Nat × Nat} (h : IsS72 w0 W g f0 f1 f2) (hb2 : W.heap[a]? = some (.cells cs t fr)) (ht : t ≠ 72) : g ≠ a := by
  obtain ⟨A0, c0, hb, hg, hr0⟩ := h
  rintro rfl
  rw [hb] at hb2
  injection hb2 with hb2
  injection hb2 with _ ht2
  exact ht ht2.symm
theorem IsS72.far {w0 W : World} {g : Nat} {f0 : List Int} {f1 : Int} {f2 : Int} {p : Addr} (h : IsS72 w0 W g f0 f1 f2) (hne : g ≠ p.block) (u : Value) : IsS72 w0 (W.setCell p u) g f0 f1 f2 := by
  obtain ⟨A0, c0, hb, hg, hr0⟩ := h
  exact ⟨A0, c0, blk_far hb hne u, hg, hr0⟩
theorem cellS72_0 {W : World} {g : Nat} {A0 : Option Addr} {c0 : Nat} {f0 : List Int} {f1 : Int} {f2 : Int} (h : W.heap[g]? = some (.cells #[.slice A0 f0.length c0, .int .i64 f1, .int .i64 f2] 72 (0, 0))) : W.cell? ⟨g, 0, none⟩ = some (.slice A0 f0.length c0) := (blk_cell h 0).trans rfl
theorem cellS72_1 {W : World} {g : Nat} {A0 : Option Addr} {c0 : Nat} {f0 : List Int} {f1 : Int} {f2 : Int} (h : W.heap[g]? = some (.cells #[.slice A0 f0.length c0, .int .i64 f1, .int .i64 f2] 72 (0, 0))) : W.cell? ⟨g, 1, none⟩ = some (.int .i64 f1) := (blk_cell h 1).trans rfl
theorem IsS72.set_1 {w0 W : World} {g : Nat} {f0 : List Int} {f1 : Int} {f2 : Int} (h : IsS72 w0 W g f0 f1 f2) (x : Int) : IsS72 w0 (W.setCell ⟨g, 1, none⟩ (.int .i64 x)) g f0 x f2 := by
  obtain ⟨A0, c0, hb, hg, hr0⟩ := h
  exact ⟨A0, c0, by simpa using blk_set hb 1 (.int .i64 x), hg, hr0⟩
theorem cellS72_2 {W : World} {g : Nat} {A0 : Option Addr} {c0 : Nat} {f0 : List Int} {f1 : Int} {f2 : Int} (h : W.heap[g]? = some (.cells #[.slice A0 f0.length c0, .int .i64 f1, .int .i64 f2] 72 (0, 0))) : W.cell? ⟨g, 2, none⟩ = some (.int .i64 f2) := (blk_cell h 2).trans rfl
theorem IsS72.set_2 {w0 W : World} {g : Nat} {f0 : List Int} {f1 : Int} {f2 : Int} (h : IsS72 w0 W g f0 f1 f2) (x : Int) : IsS72 w0 (W.setCell ⟨g, 2, none⟩ (.int .i64 x)) g f0 f1 x := by
  obtain ⟨A0, c0, hb, hg, hr0⟩ := h
  exact ⟨A0, c0, by simpa using blk_set hb 2 (.int .i64 x), hg, hr0⟩
def spec_l1Byte.f (s0_0 : List Int) (s0_1 : Int) (s0_2 : Int) : Option (Int × Int × Int) := if s0_1 < (s0_0.length : Int) then (if 0 ≤ s0_1 then (some (Go.bits .and .i64 (wrap64 ((Go.bits .and .i64 (Go.bits .xor .i64 ((wrap64 ((wrap64 (s0_2 * 6364136223846793005)) + 1442695040888963407)) / 8589934592) ((wrap64 ((wrap64 (s0_2 * 6364136223846793005)) + 1442695040888963407)) / 35184372088832)) 255) + (wrap64 (rd s0_0 s0_1)))) 255, wrap64 (s0_1 + 1), wrap64 ((wrap64 (s0_2 * 6364136223846793005)) + 1442695040888963407))) else (none)) else (some (Go.bits .and .i64 (Go.bits .xor .i64 ((wrap64 ((wrap64 (s0_2 * 6364136223846793005)) + 1442695040888963407)) / 8589934592) ((wrap64 ((wrap64 (s0_2 * 6364136223846793005)) + 1442695040888963407)) / 35184372088832)) 255, s0_1, wrap64 ((wrap64 (s0_2 * 6364136223846793005)) + 1442695040888963407)))
set_option maxHeartbeats 8000000 in
set_option maxRecDepth 100000 in
theorem spec_l1Byte.calls (g : Nat) (s0_0 : List Int) (s0_1 : Int) (s0_2 : Int) (r1 : Int) (r2 : Int) (r3 : Int) (w0 w : World) (hI : IsS72 w0 w g s0_0 s0_1 s0_2) (hB : Below w0.heap.size w0 w) (h : spec_l1Byte.f s0_0 s0_1 s0_2 = some (r1, r2, r3)) :
    Calls Tryd.prog 59 #[.pointer (some ⟨g, 0, none⟩)] w fun e w' => e = .returned (.int .i64 r1) ∧ IsS72 w0 w' g s0_0 r2 r3 ∧ Below w0.heap.size w0 w' ∧ KeepBut w w' g none := by
  have HI0 := aM hI
  have HK := aM (KeepBut.refl w g none)
  have HL := aM hB.size
  clear hI
  have HW0 := aM hB.size
  have HB := aM hB
  clear hB
  have H := h
  unfold spec_l1Byte.f at H
  clear h
  by_cases c2 : s0_1 < (s0_0.length : Int)
  case neg =>
    rw [if_neg c2] at H
    have c2b0 := decide_eq_false c2
    clear c2
    simp only [Option.some.injEq, Prod.mk.injEq] at H
    obtain ⟨rfl, rfl, rfl⟩ := H
    obtain ⟨ASzz1, cSzz1, HGzz1, hgzz1, HSzz1⟩ := HI0.out
    have hczz1 := cellS72_0 HGzz1
    have hczz2 := cellS72_1 HGzz1
    have hczz3 := cellS72_2 HGzz1
    have hfzz1 := blk_frozen HGzz1 1
    have hfzz2 := blk_frozen HGzz1 2
    clear HGzz1 hgzz1
    go_enter Tryd.func59, Tryd.ntmps59
    go_wp2
    repeat (go_quiet (fail); try go_wp2)
    go_ret
    exact ⟨rE, (i72 HI0.out), (hY HB.out (IsS72.ge HI0.out)), (kX HK.out)⟩
  rw [if_pos c2] at H
  have c2b0 := decide_eq_true c2
  clear c2
  replace H := ifP H; obtain ⟨c3, H⟩ := H
  have c3b0 := decide_eq_true c3
  clear c3
  simp only [Option.some.injEq, Prod.mk.injEq] at H
  obtain ⟨rfl, rfl, rfl⟩ := H
  obtain ⟨ASzz1, cSzz1, HGzz1, hgzz1, HSzz1⟩ := HI0.out
  have hczz1 := cellS72_0 HGzz1
  have hczz2 := cellS72_1 HGzz1
  have hczz3 := cellS72_2 HGzz1
  have hfzz1 := blk_frozen HGzz1 1
  have hfzz2 := blk_frozen HGzz1 2
  clear HGzz1 hgzz1
  have pz1 : 0 ≤ (s0_1 : Int) := odA
  have qz1 : s0_1 < (s0_0.length : Int) := odA
  obtain ⟨adz1, ez1, hxz1⟩ := Kd.at_int HSzz1 s0_1 pz1 qz1
  cases ez1
  have hnz1 : adz1.block ≠ g := Nat.ne_of_lt (Nat.lt_of_lt_of_le (by have := World.block_lt_of_cell? _ _ hxz1; first | rwa [add_block] at this | exact this) (IsS72.ge HI0.out))
  replace hxz1 := pw_cell_below HB.out hxz1
  replace hxz1 := (cell_far (p := ⟨g, 2, none⟩) (by first | (rw [add_block]; exact hnz1) | (show (Addr.add _ _).block ≠ _; rw [add_block]; exact hnz1) | exact hnz1) (.int .i64 (wrap64 ((wrap64 (s0_2 * 6364136223846793005)) + 1442695040888963407)))).trans hxz1
  (try have hy101_0 := fun (n_ : Nat) => (show (((w.drewN n_).setCell ⟨g, 2, none⟩ (.int .i64 (wrap64 ((wrap64 (s0_2 * 6364136223846793005)) + 1442695040888963407))))).cell? _ = some _ from hxz1))
  clear hnz1
  replace pz1 := eq_true pz1
  replace qz1 := eq_true qz1
  go_enter Tryd.func59, Tryd.ntmps59
  go_wp2
  repeat (go_quiet (fail); try go_wp2)
  go_ret
  exact ⟨rE, (i72 HI0.out), (hY HB.out (IsS72.ge HI0.out)), (kX HK.out)⟩
def spec_l1Below.f (s0_0 : List Int) (s0_1 : Int) (s0_2 : Int) (a1 : Int) : Option (Int × Int × Int) := if a1 ≤ 0 then (some (0, s0_1, s0_2)) else (if a1 ≤ 256 then ((spec_l1Byte.f s0_0 s0_1 s0_2).bind fun bt101 => (if a1 = 0 then (none) else (some (Int.tmod bt101.1 a1, bt101.2.1, bt101.2.2)))) else ((spec_l1Byte.f s0_0 s0_1 s0_2).bind fun bt104 => ((spec_l1Byte.f s0_0 bt104.2.1 bt104.2.2).bind fun bt107 => ((spec_l1Byte.f s0_0 bt107.2.1 bt107.2.2).bind fun bt110 => ((spec_l1Byte.f s0_0 bt110.2.1 bt110.2.2).bind fun bt113 => (if a1 = 0 then (none) else (some (Int.tmod (wrap64 ((wrap64 ((wrap64 ((wrap64 (bt104.1 * 16777216)) + (wrap64 (bt107.1 * 65536)))) + (wrap64 (bt110.1 * 256)))) + bt113.1)) a1, bt113.2.1, bt113.2.2))))))))
set_option maxHeartbeats 8000000 in
set_option maxRecDepth 100000 in
theorem spec_l1Below.calls (g : Nat) (s0_0 : List Int) (s0_1 : Int) (s0_2 : Int) (a1 : Int) (r1 : Int) (r2 : Int) (r3 : Int) (w0 w : World) (hI : IsS72 w0 w g s0_0 s0_1 s0_2) (hB : Below w0.heap.size w0 w) (h : spec_l1Below.f s0_0 s0_1 s0_2 a1 = some (r1, r2, r3)) :
    Calls Tryd.prog 42 #[.pointer (some ⟨g, 0, none⟩), .int .i64 a1] w fun e w' => e = .returned (.int .i64 r1) ∧ IsS72 w0 w' g s0_0 r2 r3 ∧ Below w0.heap.size w0 w' ∧ KeepBut w w' g none := by
  have HI0 := aM hI
  have HK := aM (KeepBut.refl w g none)
  have HL := aM hB.size
  clear hI
  have HW0 := aM hB.size
  have HB := aM hB
  clear hB
  have H := h
  unfold spec_l1Below.f at H
  clear h
  go_enter Tryd.func42, Tryd.ntmps42
  by_cases c3 : a1 ≤ 0
  · rw [if_pos c3] at H
    have c3b0 := decide_eq_true c3
    clear c3
    simp only [Option.some.injEq, Prod.mk.injEq] at H
    obtain ⟨rfl, rfl, rfl⟩ := H
    go_wp2
    go_ret
    exact ⟨rE, (i72 HI0.out), (hY HB.out (IsS72.ge HI0.out)), (kX HK.out)⟩
  rw [if_neg c3] at H
  have c3b0 := decide_eq_false c3
  clear c3
  by_cases c4 : a1 ≤ 256
  · rw [if_pos c4] at H
    have c4b0 := decide_eq_true c4
    clear c4
    replace H := bE H; obtain ⟨⟨t101, t102, t103⟩, A5, H⟩ := H
    try dsimp only at H
    replace H := ifN H; obtain ⟨c6, H⟩ := H
    obtain ⟨c6b0, c6b1⟩ := eqF c6
    simp only [Option.some.injEq, Prod.mk.injEq] at H
    obtain ⟨rfl, rfl, rfl⟩ := H
    go_wp2_with (first | (refine goesM 59 14 Tryd.func59 #[.pointer (some ⟨g, 0, none⟩)] ?_; refine (spec_l1Byte.calls g s0_0 s0_1 s0_2 t101 t102 t103 w0 _ (by repeat (first | (with_reducible first | exact HI0.out | apply IsS72.alloc | apply IsS72.drewN | apply IsS72.drew | apply IsS72.set_1 | apply IsS72.set_2) | exact HI0.out)) (by repeat (first | (with_reducible first | exact HB.out | apply below_alloc | apply pw_below_drewN | apply below_drew1 | refine below_set ?_ (IsS72.ge HI0.out)) | exact HB.out)) A5.out).mono ?_; rintro e wz1 ⟨rfl, hi, hb, hk⟩; refine ⟨_, rfl, ?_⟩; replace HK := aM (KeepBut.trans (kX HK.out) hk (.inl rfl)); replace HB := aM (hb); replace HI0 := aM (hi); clear hb hk hi))
    go_ret
    exact ⟨rE, (i72 HI0.out), (hY HB.out (IsS72.ge HI0.out)), (kX HK.out)⟩
  rw [if_neg c4] at H
  have c4b0 := decide_eq_false c4
  clear c4
  replace H := bE H; obtain ⟨⟨t104, t105, t106⟩, A8, H⟩ := H
  try dsimp only at H
  replace H := bE H; obtain ⟨⟨t107, t108, t109⟩, A9, H⟩ := H
  try dsimp only at H
  replace H := bE H; obtain ⟨⟨t110, t111, t112⟩, A10, H⟩ := H
  try dsimp only at H
  replace H := bE H; obtain ⟨⟨t113, t114, t115⟩, A11, H⟩ := H
  try dsimp only at H
  replace H := ifN H; obtain ⟨c12, H⟩ := H
  obtain ⟨c12b0, c12b1⟩ := eqF c12
  simp only [Option.some.injEq, Prod.mk.injEq] at H
  obtain ⟨rfl, rfl, rfl⟩ := H
  go_wp2_with (first | (refine goesM 59 18 Tryd.func59 #[.pointer (some ⟨g, 0, none⟩)] ?_; refine (spec_l1Byte.calls g s0_0 s0_1 s0_2 t104 t105 t106 w0 _ (by repeat (first | (with_reducible first | exact HI0.out | apply IsS72.alloc | apply IsS72.drewN | apply IsS72.drew | apply IsS72.set_1 | apply IsS72.set_2) | exact HI0.out)) (by repeat (first | (with_reducible first | exact HB.out | apply below_alloc | apply pw_below_drewN | apply below_drew1 | refine below_set ?_ (IsS72.ge HI0.out)) | exact HB.out)) A8.out).mono ?_; rintro e wz1 ⟨rfl, hi, hb, hk⟩; refine ⟨_, rfl, ?_⟩; replace HK := aM (KeepBut.trans (kX HK.out) hk (.inl rfl)); replace HB := aM (hb); replace HI0 := aM (hi); clear hb hk hi) | (refine goesM 59 20 Tryd.func59 #[.pointer (some ⟨g, 0, none⟩)] ?_; refine (spec_l1Byte.calls g s0_0 t105 t106 t107 t108 t109 w0 _ (by repeat (first | (with_reducible first | exact HI0.out | apply IsS72.alloc | apply IsS72.drewN | apply IsS72.drew | apply IsS72.set_1 | apply IsS72.set_2) | exact HI0.out)) (by repeat (first | (with_reducible first | exact HB.out | apply below_alloc | apply pw_below_drewN | apply below_drew1 | refine below_set ?_ (IsS72.ge HI0.out)) | exact HB.out)) A9.out).mono ?_; rintro e wz2 ⟨rfl, hi, hb, hk⟩; refine ⟨_, rfl, ?_⟩; replace HK := aM (KeepBut.trans (kX HK.out) hk (.inl rfl)); replace HB := aM (hb); replace HI0 := aM (hi); clear hb hk hi) | (refine goesM 59 22 Tryd.func59 #[.pointer (some ⟨g, 0, none⟩)] ?_; refine (spec_l1Byte.calls g s0_0 t108 t109 t110 t111 t112 w0 _ (by repeat (first | (with_reducible first | exact HI0.out | apply IsS72.alloc | apply IsS72.drewN | apply IsS72.drew | apply IsS72.set_1 | apply IsS72.set_2) | exact HI0.out)) (by repeat (first | (with_reducible first | exact HB.out | apply below_alloc | apply pw_below_drewN | apply below_drew1 | refine below_set ?_ (IsS72.ge HI0.out)) | exact HB.out)) A10.out).mono ?_; rintro e wz3 ⟨rfl, hi, hb, hk⟩; refine ⟨_, rfl, ?_⟩; replace HK := aM (KeepBut.trans (kX HK.out) hk (.inl rfl)); replace HB := aM (hb); replace HI0 := aM (hi); clear hb hk hi) | (refine goesM 59 24 Tryd.func59 #[.pointer (some ⟨g, 0, none⟩)] ?_; refine (spec_l1Byte.calls g s0_0 t111 t112 t113 t114 t115 w0 _ (by repeat (first | (with_reducible first | exact HI0.out | apply IsS72.alloc | apply IsS72.drewN | apply IsS72.drew | apply IsS72.set_1 | apply IsS72.set_2) | exact HI0.out)) (by repeat (first | (with_reducible first | exact HB.out | apply below_alloc | apply pw_below_drewN | apply below_drew1 | refine below_set ?_ (IsS72.ge HI0.out)) | exact HB.out)) A11.out).mono ?_; rintro e wz4 ⟨rfl, hi, hb, hk⟩; refine ⟨_, rfl, ?_⟩; replace HK := aM (KeepBut.trans (kX HK.out) hk (.inl rfl)); replace HB := aM (hb); replace HI0 := aM (hi); clear hb hk hi))
  go_ret
  exact ⟨rE, (i72 HI0.out), (hY HB.out (IsS72.ge HI0.out)), (kX HK.out)⟩
def spec_l1In.f (a0 : Int) (a1 : Int) (a2 : Int) : Option (Bool) := if a0 ≥ a1 then (some (decide (a0 ≤ a2))) else (some false)
set_option maxHeartbeats 8000000 in
set_option maxRecDepth 100000 in
theorem spec_l1In.calls (a0 : Int) (a1 : Int) (a2 : Int) (r : Bool) (w : World) (h : spec_l1In.f a0 a1 a2 = some r) :
    Calls Tryd.prog 51 #[.int .i64 a0, .int .i64 a1, .int .i64 a2] w fun e w' => e = .returned (.bool r) ∧ Drawn0 w w' := by
  have H := h
  unfold spec_l1In.f at H
  clear h
  go_enter Tryd.func51, Tryd.ntmps51
  by_cases c4 : a0 ≥ a1
  · rw [if_pos c4] at H
    have c4b0 := decide_eq_true c4
    clear c4
    obtain rfl := sI H
    go_wp2
    go_ret
    exact ⟨by first | rfl | (simp; done) | (simp [*]; done), dX⟩
  rw [if_neg c4] at H
  have c4b0 := decide_eq_false c4
  clear c4
  obtain rfl := sI H
  go_wp2
  go_ret
  exact ⟨by first | rfl | (simp; done) | (simp [*]; done), dX⟩
def spec_l4Key.f (a0 : Int) : Option (Bool) := (spec_l1In.f a0 1 4).bind fun t101 => (some t101)
set_option maxHeartbeats 8000000 in
set_option maxRecDepth 100000 in
theorem spec_l4Key.calls (a0 : Int) (r : Bool) (w : World) (h : spec_l4Key.f a0 = some r) :
    Calls Tryd.prog 30 #[.int .i64 a0] w fun e w' => e = .returned (.bool r) ∧ Drawn0 w w' := by
  have H := h
  unfold spec_l4Key.f at H
  clear h
  replace H := bE H; obtain ⟨t101, A2, H⟩ := H
  obtain rfl := sI H
  go_enter Tryd.func30, Tryd.ntmps30
  go_wp2_with (first | (refine goesM 51 4 Tryd.func51 #[.int .i64 a0, .int .i64 1, .int .i64 4] ?_; refine (spec_l1In.calls _ _ _ _ _ A2.out).mono ?_; rintro e w' ⟨rfl, ⟨nd, rfl⟩⟩; refine ⟨_, rfl, ?_⟩))
  go_ret
  exact ⟨by first | rfl | (simp; done) | (simp [*]; done), dX⟩
def spec_l4Val.f (a0 : Int) : Option (Bool) := if a0 = 1 then (some true) else (if a0 = 2 then (some true) else (if a0 = 5 then (some true) else (some (a0 == 10))))
set_option maxHeartbeats 8000000 in
set_option maxRecDepth 100000 in
theorem spec_l4Val.calls (a0 : Int) (r : Bool) (w : World) (h : spec_l4Val.f a0 = some r) :
    Calls Tryd.prog 47 #[.int .i64 a0] w fun e w' => e = .returned (.bool r) ∧ Drawn0 w w' := by
  have H := h
  unfold spec_l4Val.f at H
  clear h
  go_enter Tryd.func47, Tryd.ntmps47
  by_cases c2 : a0 = 1
  · rw [if_pos c2] at H
    obtain ⟨c2b0, c2b1⟩ := eqT c2
    clear c2
    obtain rfl := sI H
    go_wp2
    go_ret
    exact ⟨by first | rfl | (simp; done) | (simp [*]; done), dX⟩
  rw [if_neg c2] at H
  obtain ⟨c2b0, c2b1⟩ := eqF c2
  by_cases c3 : a0 = 2
  · rw [if_pos c3] at H
    obtain ⟨c3b0, c3b1⟩ := eqT c3
    clear c3
    obtain rfl := sI H
    go_wp2
    go_ret
    exact ⟨by first | rfl | (simp; done) | (simp [*]; done), dX⟩
  rw [if_neg c3] at H
  obtain ⟨c3b0, c3b1⟩ := eqF c3
  by_cases c4 : a0 = 5
  case neg =>
    rw [if_neg c4] at H
    obtain ⟨c4b0, c4b1⟩ := eqF c4
    obtain rfl := sI H
    go_wp2
    go_ret
    exact ⟨by first | rfl | (simp; done) | (simp [*]; done), dX⟩
  rw [if_pos c4] at H
  obtain ⟨c4b0, c4b1⟩ := eqT c4
  clear c4
  obtain rfl := sI H
  go_wp2
  go_ret
  exact ⟨by first | rfl | (simp; done) | (simp [*]; done), dX⟩
def spec_l1PickInt.f (s0_0 : List Int) (s0_1 : Int) (s0_2 : Int) (l1 : List Int) : Option (Int × Int × Int) := (spec_l1Below.f s0_0 s0_1 s0_2 (l1.length : Int)).bind fun bt101 => (if 0 ≤ bt101.1 then (if bt101.1 < (l1.length : Int) then (some (rd l1 bt101.1, bt101.2.1, bt101.2.2)) else (none)) else (none))
set_option maxHeartbeats 8000000 in
set_option maxRecDepth 100000 in
theorem spec_l1PickInt.calls (g : Nat) (s0_0 : List Int) (s0_1 : Int) (s0_2 : Int) (A1 : Option Addr) (c1 : Nat) (l1 : List Int) (r1 : Int) (r2 : Int) (r3 : Int) (w0 w : World) (hI : IsS72 w0 w g s0_0 s0_1 s0_2) (hB : Below w0.heap.size w0 w) (hr1 : Kd.C (Kd.int .i64) w A1 l1.length l1) (hc1 : l1.length ≤ c1) (hf1 : ∀ ad, A1 = some ad → 0 < l1.length → ad.block ≠ g) (h : spec_l1PickInt.f s0_0 s0_1 s0_2 l1 = some (r1, r2, r3)) :
    Calls Tryd.prog 62 #[.pointer (some ⟨g, 0, none⟩), .slice A1 l1.length c1] w fun e w' => e = .returned (.int .i64 r1) ∧ IsS72 w0 w' g s0_0 r2 r3 ∧ Below w0.heap.size w0 w' ∧ KeepBut w w' g none := by
  have HR1 := aM hr1
  have HC1 := aM hc1
  clear hr1 hc1
  have HI0 := aM hI
  have HK := aM (KeepBut.refl w g none)
  have HL := aM hB.size
  clear hI
  have HW0 := aM hB.size
  have HB := aM hB
  clear hB
  have H := h
  unfold spec_l1PickInt.f at H
  clear h
  replace H := bE H; obtain ⟨⟨t101, t102, t103⟩, A3, H⟩ := H
  try dsimp only at H
  replace H := ifP H; obtain ⟨c4, H⟩ := H
  have c4b0 := decide_eq_true c4
  clear c4
  replace H := ifP H; obtain ⟨c5, H⟩ := H
  have c5b0 := decide_eq_true c5
  clear c5
  simp only [Option.some.injEq, Prod.mk.injEq] at H
  obtain ⟨rfl, rfl, rfl⟩ := H
  go_enter Tryd.func62, Tryd.ntmps62
  go_wp2_with (first | (refine goesM 42 9 Tryd.func42 #[.pointer (some ⟨g, 0, none⟩), .int .i64 (l1.length : Int)] ?_; refine (spec_l1Below.calls g s0_0 s0_1 s0_2 (l1.length : Int) t101 t102 t103 w0 _ (by repeat (first | (with_reducible first | exact HI0.out | apply IsS72.alloc | apply IsS72.drewN | apply IsS72.drew | apply IsS72.set_1 | apply IsS72.set_2) | exact HI0.out)) (by repeat (first | (with_reducible first | exact HB.out | apply below_alloc | apply pw_below_drewN | apply below_drew1 | refine below_set ?_ (IsS72.ge HI0.out)) | exact HB.out)) A3.out).mono ?_; rintro e wz1 ⟨rfl, hi, hb, hk⟩; refine ⟨_, rfl, ?_⟩; replace HK := aM (KeepBut.trans (kX HK.out) hk (.inl rfl)); replace HB := aM (hb); replace HI0 := aM (hi); clear hb hk hi; have pz1 : 0 ≤ (t101 : Int) := odA; have qz1 : t101 < (l1.length : Int) := odA; obtain ⟨adz1, ez1, hxz1⟩ := Kd.at_int HR1.out t101 pz1 qz1; cases ez1; replace hxz1 := keep_cell HK.out hxz1 (by first | (rw [add_block]; exact hf1 _ rfl (by omega)) | exact hf1 _ rfl (by omega) | exact hf1 adz1 rfl (by omega)); replace pz1 := eq_true pz1; replace qz1 := eq_true qz1))
  go_ret
  exact ⟨rE, (i72 HI0.out), (hY HB.out (IsS72.ge HI0.out)), (kX HK.out)⟩
mutual
def spec_l4DrawRight.j0 : Nat → List Int → Int → Int → Int → Int → Int → Option (Int × Int × Int × Int × Int)
  | 0, _, _, _, _, _, _ => none
  | k + 1, x1000, x1001, x1002, x109000, x109001, x109002 => if x109000 = 6 then ((spec_l1Below.f x1000 x1001 x1002 3).bind fun bt113 => (spec_l4DrawRight.j1 k x1000 bt113.2.1 bt113.2.2 x109000 bt113.1 x109002)) else (spec_l4DrawRight.j1 k x1000 x1001 x1002 x109000 x109001 x109002)
def spec_l4DrawRight.j1 : Nat → List Int → Int → Int → Int → Int → Int → Option (Int × Int × Int × Int × Int)
  | 0, _, _, _, _, _, _ => none
  | k + 1, x1000, x1001, x1002, x109000, x109001, x109002 => (spec_l4Val.f x109000).bind fun t116 => (if t116 = true then ((spec_l1Below.f x1000 x1001 x1002 4).bind fun bt117 => (some (x109000, x109001, wrap64 (1 + bt117.1), bt117.2.1, bt117.2.2))) else (some (x109000, x109001, x109002, x1001, x1002)))
end
def spec_l4DrawRight.f (k : Nat) (s0_0 : List Int) (s0_1 : Int) (s0_2 : Int) : Option (Int × Int × Int × Int × Int) := (spec_l1PickInt.f s0_0 s0_1 s0_2 (([1, 1, 1, 2, 2, 3, 4, 5, 6, 7, 8, 9, 9, 10] : List Int))).bind fun bt105 => ((spec_l4Key.f bt105.1).bind fun t109 => (if t109 = true then ((spec_l1Below.f s0_0 bt105.2.1 bt105.2.2 4).bind fun bt110 => (spec_l4DrawRight.j0 k s0_0 bt110.2.1 bt110.2.2 bt105.1 bt110.1 0)) else (spec_l4DrawRight.j0 k s0_0 bt105.2.1 bt105.2.2 bt105.1 0 0)))
set_option maxHeartbeats 8000000 in
set_option maxRecDepth 100000 in
theorem spec_l4DrawRight.calls (k : Nat) (g : Nat) (s0_0 : List Int) (s0_1 : Int) (s0_2 : Int) (r1 : Int) (r2 : Int) (r3 : Int) (r4 : Int) (r5 : Int) (w0 w : World) (hI : IsS72 w0 w g s0_0 s0_1 s0_2) (hB : Below w0.heap.size w0 w) (h : spec_l4DrawRight.f k s0_0 s0_1 s0_2 = some (r1, r2, r3, r4, r5)) :
    Calls Tryd.prog 45 #[.pointer (some ⟨g, 0, none⟩)] w fun e w' => e = .returned (.agg #[.int .i64 r1, .int .i64 r2, .int .i64 r3]) ∧ IsS72 w0 w' g s0_0 r4 r5 ∧ Below w0.heap.size w0 w' ∧ KeepBut w w' g none := by
  have hu23 := Tryd.underlying23
  have HI0 := aM hI
  have HK := aM (KeepBut.refl w g none)
  have HL := aM hB.size
  clear hI
  have HW0 := aM hB.size
  have HB := aM hB
  clear hB
  have H := h
  unfold spec_l4DrawRight.f at H
  clear h
  obtain ⟨y102, hy102⟩ : ∃ y_ : List Int, y_ = (([1, 1, 1, 2, 2, 3, 4, 5, 6, 7, 8, 9, 9, 10] : List Int)) := ⟨_, rfl⟩
  replace H : ((spec_l1PickInt.f s0_0 s0_1 s0_2 y102).bind fun bt105 => ((spec_l4Key.f bt105.1).bind fun t109 => (if t109 = true then ((spec_l1Below.f s0_0 bt105.2.1 bt105.2.2 4).bind fun bt110 => (spec_l4DrawRight.j0 k s0_0 bt110.2.1 bt110.2.2 bt105.1 bt110.1 0)) else (spec_l4DrawRight.j0 k s0_0 bt105.2.1 bt105.2.2 bt105.1 0 0)))) = some (r1, r2, r3, r4, r5) := yH H hy102
  have Ny102 := aM hy102
  clear hy102
  replace H := bE H; obtain ⟨⟨t105, t106, t107⟩, A2, H⟩ := H
  try dsimp only at H
  replace H := bE H; obtain ⟨t109, A3, H⟩ := H
  have HC4 := aM H
  clear H
  go_enter Tryd.func45, Tryd.ntmps45
  go_upto_if 10 with (first | ((with_reducible refine gate_dst (N := 2) rfl ?_); refine boxE 2 #[.int .i64 0, .int .i64 0, .int .i64 0] 23 ?_; intro gbz1 hg wz1 hbox hb; have BKz1 := aM (hbox); have GWz1 := aM ((by rw [hg]; exact (keep_size (w := w) (g := g) (row := none) (kX HK.out)) : w.heap.size ≤ gbz1)); have GEz1 := aM ((Nat.le_trans HW0.out (by rw [hg]; exact (keep_size (w := w) (g := g) (row := none) (kX HK.out)) : w.heap.size ≤ gbz1) : w0.heap.size ≤ gbz1)); have NBz1 := aM ((by rw [hg]; exact Nat.ne_of_lt (IsS72.lt (show IsS72 w0 _ g s0_0 s0_1 s0_2 from (i72 HI0.out))) : g ≠ gbz1)); have NBz2 := aM ((by rw [hg]; exact Nat.ne_of_gt (IsS72.lt (show IsS72 w0 _ g s0_0 s0_1 s0_2 from (i72 HI0.out))) : gbz1 ≠ g)); replace HK := aM (KeepBut.trans (kX HK.out) (KeepBut.of_below hb g none) (.inl rfl)); replace HB := aM (below_step (hY HB.out (IsS72.ge HI0.out)) hb); replace HI0 := aM (IsS72.below (i72 HI0.out) hb); clear hb hbox hg) | ((with_reducible refine gate_dst (N := 5) rfl ?_); refine Kd.R_lit (Kd.int .i64) _ 3 ?hg (N := 5) ?hd (xs := ([1, 1, 1, 2, 2, 3, 4, 5, 6, 7, 8, 9, 9, 10] : List Int)) (inner := [.int .i64 1, .int .i64 1, .int .i64 1, .int .i64 2, .int .i64 2, .int .i64 3, .int .i64 4, .int .i64 5, .int .i64 6, .int .i64 7, .int .i64 8, .int .i64 9, .int .i64 9, .int .i64 10]) (ok := fun _ => True) (okp := fun _ => True) ?hr ?hp (fun _ hk => hk) trivial (Below.refl _ _) (Nat.le_refl _) (by simp) ?_; (case hd => rfl); (case hg => rfl); (case hr => first | (go_simp; done) | (go_simp; rfl)); (case hp => exact (Reps.one (show Kd.M (Kd.int .i64) _ _ _ 1 [.int .i64 1] from rfl) (Reps.one (show Kd.M (Kd.int .i64) _ _ _ 1 [.int .i64 1] from rfl) (Reps.one (show Kd.M (Kd.int .i64) _ _ _ 1 [.int .i64 1] from rfl) (Reps.one (show Kd.M (Kd.int .i64) _ _ _ 2 [.int .i64 2] from rfl) (Reps.one (show Kd.M (Kd.int .i64) _ _ _ 2 [.int .i64 2] from rfl) (Reps.one (show Kd.M (Kd.int .i64) _ _ _ 3 [.int .i64 3] from rfl) (Reps.one (show Kd.M (Kd.int .i64) _ _ _ 4 [.int .i64 4] from rfl) (Reps.one (show Kd.M (Kd.int .i64) _ _ _ 5 [.int .i64 5] from rfl) (Reps.one (show Kd.M (Kd.int .i64) _ _ _ 6 [.int .i64 6] from rfl) (Reps.one (show Kd.M (Kd.int .i64) _ _ _ 7 [.int .i64 7] from rfl) (Reps.one (show Kd.M (Kd.int .i64) _ _ _ 8 [.int .i64 8] from rfl) (Reps.one (show Kd.M (Kd.int .i64) _ _ _ 9 [.int .i64 9] from rfl) (Reps.one (show Kd.M (Kd.int .i64) _ _ _ 9 [.int .i64 9] from rfl) (Reps.one (show Kd.M (Kd.int .i64) _ _ _ 10 [.int .i64 10] from rfl) (Reps.none _ _)))))))))))))))); intro vz1 wz2 hoz1 hb hg_ hnew_; clear hg_ hnew_; (first | rw [← Ny102.out] at hoz1 | (simp only [Int.reduceToNat] at hoz1; rw [← Ny102.out] at hoz1)); have HOz1 := aM (Kd.R_lower hoz1 (keep_size (w := w) (g := g) (row := none) (kX HK.out))); replace BKz1 := aB BKz1 hb; replace HK := aM (KeepBut.trans (kX HK.out) (KeepBut.of_below hb g none) (.inl rfl)); replace HB := aM (below_step (hY HB.out (IsS72.ge HI0.out)) hb); replace HI0 := aM (IsS72.below (i72 HI0.out) hb); clear hb hoz1; obtain ⟨Aoz1, coz1, eoz1⟩ := Kd.R_slice HOz1.out; subst eoz1) | ((with_reducible refine gate_callee (f := 62) rfl ?_); refine goesM 62 6 Tryd.func62 #[.pointer (some ⟨g, 0, none⟩), .slice Aoz1 y102.length coz1] ?_; refine (spec_l1PickInt.calls g s0_0 s0_1 s0_2 _ _ y102 t105 t106 t107 w0 _ (by repeat (first | (with_reducible first | exact HI0.out | apply IsS72.alloc | apply IsS72.drewN | apply IsS72.drew | apply IsS72.set_1 | apply IsS72.set_2 | refine IsS72.far ?_ NBz1.out _) | exact HI0.out)) (by repeat (first | (with_reducible first | exact HB.out | apply below_alloc | apply pw_below_drewN | apply below_drew1 | refine below_set ?_ (IsS72.ge HI0.out) | refine below_set ?_ GEz1.out) | exact HB.out)) (cX (Kd.R_reads' HOz1.out).2.2) ((Kd.R_reads' HOz1.out).2.1) (by exact far_slice (IsS72.own_ne HI0.out HOz1.out (by decide))) A2.out).mono ?_; rintro e wz3 ⟨rfl, hi, hb, hk⟩; refine ⟨_, rfl, ?_⟩; replace BKz1 := aM (KeepBut.blk hk (g' := gbz1) (o := .cells #[.int .i64 0, .int .i64 0, .int .i64 0] 23 (0, 0)) (bX BKz1.out) NBz2.out (by simp)); replace HOz1 := aM (Kd.R_mono (Kd.R_keep (IsS72.apart (show IsS72 w0 _ g s0_0 s0_1 s0_2 from (i72 HI0.out)) (rX HOz1.out) (by decide)) hk (fun _ h => h.2)) (fun _ h => h.1)); replace HK := aM (KeepBut.trans (kX HK.out) hk (.inl rfl)); replace HB := aM (hb); replace HI0 := aM (hi); clear hb hk hi) | ((with_reducible refine gate_dst (N := 3) rfl ?_); refine boxE 3 #[.int .i64 0, .int .i64 0, .int .i64 0] 23 ?_; intro gbz2 hg wz4 hbox hb; have BKz2 := aM (hbox); have GWz2 := aM ((by rw [hg]; exact (keep_size (w := w) (g := g) (row := none) (kX HK.out)) : w.heap.size ≤ gbz2)); have GEz2 := aM ((Nat.le_trans HW0.out (by rw [hg]; exact (keep_size (w := w) (g := g) (row := none) (kX HK.out)) : w.heap.size ≤ gbz2) : w0.heap.size ≤ gbz2)); have NBz3 := aL hg BKz1; have NBz4 := aR hg BKz1; have NBz5 := aM ((by rw [hg]; exact Nat.ne_of_lt (IsS72.lt (show IsS72 w0 _ g s0_0 t106 t107 from (i72 HI0.out))) : g ≠ gbz2)); have NBz6 := aM ((by rw [hg]; exact Nat.ne_of_gt (IsS72.lt (show IsS72 w0 _ g s0_0 t106 t107 from (i72 HI0.out))) : gbz2 ≠ g)); replace HOz1 := aQ HOz1 hb; replace BKz1 := aB BKz1 hb; replace HK := aM (KeepBut.trans (kX HK.out) (KeepBut.of_below hb g none) (.inl rfl)); replace HB := aM (below_step (hY HB.out (IsS72.ge HI0.out)) hb); replace HI0 := aM (IsS72.below (i72 HI0.out) hb); clear hb hbox hg; have hnbz1 := NBz4.out; have hncz1 := NBz3.out; have hnbz2 := NBz6.out; have hncz2 := NBz5.out; obtain ⟨hczz1, hczz2, hczz3, hfzz1, hfzz2, hfzz3⟩ := cZ3 BKz2.out) | ((with_reducible refine gate_callee (f := 30) rfl ?_); refine goesM 30 10 Tryd.func30 #[.int .i64 t105] ?_; refine (spec_l4Key.calls _ _ _ A3.out).mono ?_; rintro e w' ⟨rfl, ⟨nd, rfl⟩⟩; refine ⟨_, rfl, ?_⟩))
  (try simp only [Act.put, List.setIfInBounds_toArray, List.set_cons_zero, List.set_cons_succ])
  go_cut [] (fun wc => ∃ (kq : Nat) (x1001_3 : Int) (x1002_3 : Int) (x109001_3 : Int), Aside0 (spec_l4DrawRight.j0 kq s0_0 x1001_3 x1002_3 t105 x109001_3 0 = some (r1, r2, r3, r4, r5)) ∧ Aside0 (kq ≤ k) ∧ Aside0 (wc.heap[gbz1]? = some (.cells #[.int .i64 0, .int .i64 0, .int .i64 0] 23 (0, 0))) ∧ Aside0 (wc.heap[gbz2]? = some (.cells #[.int .i64 t105, .int .i64 x109001_3, .int .i64 0] 23 (0, 0))) ∧ Aside0 (IsS72 w0 wc g s0_0 x1001_3 x1002_3) ∧ Aside0 (KeepBut w wc g none) ∧ Aside0 (Below w0.heap.size w0 wc))
  case first =>
    have H := HC4.out
    clear HC4
    by_cases c14 : t109 = true
    case neg =>
      replace c14 := Bool.eq_false_iff.mpr c14
      subst c14
      rw [if_neg nft] at H
      have H' := aM H
      clear H
      go_wp2
      go_meet
      case rel => exact ⟨_, (t106), (t107), (0), H', ⟨by first | omega | exact Nat.le_refl _⟩, ⟨(bF BKz1.out)⟩, ⟨(bP BKz2.out)⟩, ⟨(i72 HI0.out)⟩, ⟨(kX HK.out)⟩, ⟨(hY HB.out (IsS72.ge HI0.out))⟩⟩
    subst c14
    rw [if_pos rfl] at H
    replace H := bE H; obtain ⟨⟨t110, t111, t112⟩, A15, H⟩ := H
    try dsimp only at H
    have H' := aM H
    clear H
    go_wp2_with (first | (refine goesM 42 12 Tryd.func42 #[.pointer (some ⟨g, 0, none⟩), .int .i64 4] ?_; refine (spec_l1Below.calls g s0_0 t106 t107 4 t110 t111 t112 w0 _ (by repeat (first | (with_reducible first | exact HI0.out | apply IsS72.alloc | apply IsS72.drewN | apply IsS72.drew | apply IsS72.set_1 | apply IsS72.set_2 | refine IsS72.far ?_ NBz1.out _ | refine IsS72.far ?_ NBz5.out _) | exact HI0.out)) (by repeat (first | (with_reducible first | exact HB.out | apply below_alloc | apply pw_below_drewN | apply below_drew1 | refine below_set ?_ (IsS72.ge HI0.out) | refine below_set ?_ GEz1.out | refine below_set ?_ GEz2.out) | exact HB.out)) A15.out).mono ?_; rintro e wy1 ⟨rfl, hi, hb, hk⟩; refine ⟨_, rfl, ?_⟩; replace BKz1 := aM (KeepBut.blk hk (g' := gbz1) (o := .cells #[.int .i64 0, .int .i64 0, .int .i64 0] 23 (0, 0)) (bF BKz1.out) NBz2.out (by simp)); replace HOz1 := aM (Kd.R_mono (Kd.R_keep (IsS72.apart (show IsS72 w0 _ g s0_0 t106 t107 from (i72 HI0.out)) (rF HOz1.out BKz2.out) (by decide)) hk (fun _ h => h.2)) (fun _ h => h.1)); replace BKz2 := aM (KeepBut.blk hk (g' := gbz2) (o := .cells #[.int .i64 t105, .int .i64 0, .int .i64 0] 23 (0, 0)) (bP BKz2.out) NBz6.out (by simp)); replace HK := aM (KeepBut.trans (kX HK.out) hk (.inl rfl)); replace HB := aM (hb); replace HI0 := aM (hi); clear hb hk hi; have hnby1 := NBz4.out; have hncy1 := NBz3.out; have hnby2 := NBz6.out; have hncy2 := NBz5.out; obtain ⟨hczy1, hczy2, hczy3, hfzy1, hfzy2, hfzy3⟩ := cZ3 BKz2.out))
    go_meet
    case rel => exact ⟨_, (t111), (t112), (t110), H', ⟨by first | omega | exact Nat.le_refl _⟩, ⟨(bF BKz1.out)⟩, ⟨(bP BKz2.out)⟩, ⟨(i72 HI0.out)⟩, ⟨(kX HK.out)⟩, ⟨(hY HB.out (IsS72.ge HI0.out))⟩⟩
  case rest =>
    clear HC4
    try clear p2
    try clear hczz1 hczz2 hczz3 hfzz1 hfzz2 hfzz3
    obtain ⟨kq, x1001_3, x1002_3, x109001_3, HA, HJy1, BKz1, BKz2, HI0, HK, HB⟩ := hcut
    cases kq with
    | zero => exact absurd HA.out (by simp [spec_l4DrawRight.j0])
    | succ kj3 =>
      have H := HA.out
      clear HA
      simp only [spec_l4DrawRight.j0] at H
      have HC20 := aM H
      clear H
      have hnbx1 := NBz4.out
      have hncx1 := NBz3.out
      have hnbx2 := NBz6.out
      have hncx2 := NBz5.out
      obtain ⟨hczx1, hczx2, hczx3, hfzx1, hfzx2, hfzx3⟩ := cZ3 BKz2.out
      go_upto_if 16 with (fail)
      go_cut [] (fun wc => ∃ (kq : Nat) (x1001_19 : Int) (x1002_19 : Int) (x109001_19 : Int), Aside0 (spec_l4DrawRight.j1 kq s0_0 x1001_19 x1002_19 t105 x109001_19 0 = some (r1, r2, r3, r4, r5)) ∧ Aside0 (kq ≤ kj3) ∧ Aside0 (wc.heap[gbz1]? = some (.cells #[.int .i64 0, .int .i64 0, .int .i64 0] 23 (0, 0))) ∧ Aside0 (wc.heap[gbz2]? = some (.cells #[.int .i64 t105, .int .i64 x109001_19, .int .i64 0] 23 (0, 0))) ∧ Aside0 (IsS72 w0 wc g s0_0 x1001_19 x1002_19) ∧ Aside0 (KeepBut w wc g none) ∧ Aside0 (Below w0.heap.size w0 wc))
      case first =>
        have H := HC20.out
        clear HC20
        by_cases c24 : t105 = 6
        case neg =>
          rw [if_neg c24] at H
          obtain ⟨c24b0, c24b1⟩ := eqF c24
          (first | rw [c24b0] | (simp only [i64_w, i32_w]; rw [c24b0]) | skip)
          have H' := aM H
          clear H
          go_wp2
          go_meet
          case rel => exact ⟨_, (x1001_3), (x1002_3), (x109001_3), H', ⟨by have := HJy1.out; first | omega | exact Nat.le_refl _⟩, ⟨(bX BKz1.out)⟩, ⟨(bX BKz2.out)⟩, ⟨(i72 HI0.out)⟩, ⟨(kX HK.out)⟩, ⟨(hY HB.out (IsS72.ge HI0.out))⟩⟩
        rw [if_pos c24] at H
        obtain ⟨c24b0, c24b1⟩ := eqT c24
        clear c24
        (first | rw [c24b0] | (simp only [i64_w, i32_w]; rw [c24b0]) | skip)
        replace H := bE H; obtain ⟨⟨t113, t114, t115⟩, A25, H⟩ := H
        try dsimp only at H
        have H' := aM H
        clear H
        go_wp2_with (first | (refine goesM 42 18 Tryd.func42 #[.pointer (some ⟨g, 0, none⟩), .int .i64 3] ?_; refine (spec_l1Below.calls g s0_0 x1001_3 x1002_3 3 t113 t114 t115 w0 _ (by repeat (first | (with_reducible first | exact HI0.out | apply IsS72.alloc | apply IsS72.drewN | apply IsS72.drew | apply IsS72.set_1 | apply IsS72.set_2 | refine IsS72.far ?_ NBz1.out _ | refine IsS72.far ?_ NBz5.out _) | exact HI0.out)) (by repeat (first | (with_reducible first | exact HB.out | apply below_alloc | apply pw_below_drewN | apply below_drew1 | refine below_set ?_ (IsS72.ge HI0.out) | refine below_set ?_ GEz1.out | refine below_set ?_ GEz2.out) | exact HB.out)) A25.out).mono ?_; rintro e ww1 ⟨rfl, hi, hb, hk⟩; refine ⟨_, rfl, ?_⟩; replace BKz1 := aM (KeepBut.blk hk (g' := gbz1) (o := .cells #[.int .i64 0, .int .i64 0, .int .i64 0] 23 (0, 0)) (bX BKz1.out) NBz2.out (by simp)); replace BKz2 := aM (KeepBut.blk hk (g' := gbz2) (o := .cells #[.int .i64 t105, .int .i64 x109001_3, .int .i64 0] 23 (0, 0)) (bX BKz2.out) NBz6.out (by simp)); replace HK := aM (KeepBut.trans (kX HK.out) hk (.inl rfl)); replace HB := aM (hb); replace HI0 := aM (hi); clear hb hk hi; have hnbw1 := NBz4.out; have hncw1 := NBz3.out; have hnbw2 := NBz6.out; have hncw2 := NBz5.out; obtain ⟨hczw1, hczw2, hczw3, hfzw1, hfzw2, hfzw3⟩ := cZ3 BKz2.out))
        go_meet
        case rel => exact ⟨_, (t114), (t115), (t113), H', ⟨by have := HJy1.out; first | omega | exact Nat.le_refl _⟩, ⟨(bF BKz1.out)⟩, ⟨(bP BKz2.out)⟩, ⟨(i72 HI0.out)⟩, ⟨(kX HK.out)⟩, ⟨(hY HB.out (IsS72.ge HI0.out))⟩⟩
      case rest =>
        clear HC20
        try clear p2
        try clear hczz1 hczz2 hczz3 hfzz1 hfzz2 hfzz3
        try clear hczx1 hczx2 hczx3 hfzx1 hfzx2 hfzx3
        obtain ⟨kq, x1001_19, x1002_19, x109001_19, HA, HJw1, BKz1, BKz2, HI0, HK, HB⟩ := hcut
        cases kq with
        | zero => exact absurd HA.out (by simp [spec_l4DrawRight.j1])
        | succ kj19 =>
          have H := HA.out
          clear HA
          simp only [spec_l4DrawRight.j1] at H
          replace H := bE H; obtain ⟨t116, A30, H⟩ := H
          by_cases c31 : t116 = true
          case neg =>
            replace c31 := Bool.eq_false_iff.mpr c31
            subst c31
            rw [if_neg nft] at H
            simp only [Option.some.injEq, Prod.mk.injEq] at H
            obtain ⟨rfl, rfl, rfl, rfl, rfl⟩ := H
            have hnbv1 := NBz4.out
            have hncv1 := NBz3.out
            have hnbv2 := NBz6.out
            have hncv2 := NBz5.out
            obtain ⟨hczv1, hczv2, hczv3, hfzv1, hfzv2, hfzv3⟩ := cZ3 BKz2.out
            go_wp2_with (first | (refine goesM 47 22 Tryd.func47 #[.int .i64 t105] ?_; refine (spec_l4Val.calls _ _ _ A30.out).mono ?_; rintro e w' ⟨rfl, ⟨nd, rfl⟩⟩; refine ⟨_, rfl, ?_⟩; (try (rw [drewN_self wc]; generalize hq_ : World.drewN wc _ = wc; have nv1 : Aside0 (wc.heap[gbz1]? = some (.cells #[.int .i64 0, .int .i64 0, .int .i64 0] 23 (0, 0))) := ⟨by rw [← hq_]; exact (bX BKz1.out)⟩; have nv2 : Aside0 (wc.heap[gbz2]? = some (.cells #[.int .i64 t105, .int .i64 x109001_19, .int .i64 0] 23 (0, 0))) := ⟨by rw [← hq_]; exact (bX BKz2.out)⟩; have nv3 : Aside0 (IsS72 w0 wc g s0_0 x1001_19 x1002_19) := ⟨by rw [← hq_]; exact (i72 HI0.out)⟩; have nv4 : Aside0 (KeepBut w wc g none) := ⟨by rw [← hq_]; exact (kX HK.out)⟩; have nv5 : Aside0 (Below w0.heap.size w0 wc) := ⟨by rw [← hq_]; exact (hY HB.out (IsS72.ge HI0.out))⟩; clear BKz1 BKz2 HI0 HK HB hq_; have BKz1 := nv1; have BKz2 := nv2; have HI0 := nv3; have HK := nv4; have HB := nv5; clear nv1 nv2 nv3 nv4 nv5)); have hnbv3 := NBz2.out; have hncv3 := NBz1.out; obtain ⟨hczv4, hczv5, hczv6, hfzv4, hfzv5, hfzv6⟩ := cZ3 BKz1.out; obtain ⟨hcq1, hcq2, hcq3, hfq1, hfq2, hfq3⟩ := cZ3 BKz2.out))
            refine bodyPost_ret (results_cell_row rfl _ _ gbz1 23 #[.int .i64 t105, .int .i64 x109001_19, .int .i64 0] (0, 0) _ rfl (bP BKz1.out) Tryd.underlying23 rfl (by kernel_rfl)) rfl ?_
            exact ⟨rE, (i72 HI0.out), (hY HB.out (IsS72.ge HI0.out)), (kX HK.out)⟩
          subst c31
          rw [if_pos rfl] at H
          replace H := bE H; obtain ⟨⟨t117, t118, t119⟩, A32, H⟩ := H
          try dsimp only at H
          simp only [Option.some.injEq, Prod.mk.injEq] at H
          obtain ⟨rfl, rfl, rfl, rfl, rfl⟩ := H
          have hnbv1 := NBz4.out
          have hncv1 := NBz3.out
          have hnbv2 := NBz6.out
          have hncv2 := NBz5.out
          obtain ⟨hczv1, hczv2, hczv3, hfzv1, hfzv2, hfzv3⟩ := cZ3 BKz2.out
          go_wp2_with (first | (refine goesM 47 22 Tryd.func47 #[.int .i64 t105] ?_; refine (spec_l4Val.calls _ _ _ A30.out).mono ?_; rintro e w' ⟨rfl, ⟨nd, rfl⟩⟩; refine ⟨_, rfl, ?_⟩; (try (rw [drewN_self wc]; generalize hq_ : World.drewN wc _ = wc; have nv1 : Aside0 (wc.heap[gbz1]? = some (.cells #[.int .i64 0, .int .i64 0, .int .i64 0] 23 (0, 0))) := ⟨by rw [← hq_]; exact (bX BKz1.out)⟩; have nv2 : Aside0 (wc.heap[gbz2]? = some (.cells #[.int .i64 t105, .int .i64 x109001_19, .int .i64 0] 23 (0, 0))) := ⟨by rw [← hq_]; exact (bX BKz2.out)⟩; have nv3 : Aside0 (IsS72 w0 wc g s0_0 x1001_19 x1002_19) := ⟨by rw [← hq_]; exact (i72 HI0.out)⟩; have nv4 : Aside0 (KeepBut w wc g none) := ⟨by rw [← hq_]; exact (kX HK.out)⟩; have nv5 : Aside0 (Below w0.heap.size w0 wc) := ⟨by rw [← hq_]; exact (hY HB.out (IsS72.ge HI0.out))⟩; clear BKz1 BKz2 HI0 HK HB hq_; have BKz1 := nv1; have BKz2 := nv2; have HI0 := nv3; have HK := nv4; have HB := nv5; clear nv1 nv2 nv3 nv4 nv5))) | (refine goesM 42 24 Tryd.func42 #[.pointer (some ⟨g, 0, none⟩), .int .i64 4] ?_; refine (spec_l1Below.calls g s0_0 x1001_19 x1002_19 4 t117 t118 t119 w0 _ (by repeat (first | (with_reducible first | exact HI0.out | apply IsS72.alloc | apply IsS72.drewN | apply IsS72.drew | apply IsS72.set_1 | apply IsS72.set_2 | refine IsS72.far ?_ NBz1.out _ | refine IsS72.far ?_ NBz5.out _) | exact HI0.out)) (by repeat (first | (with_reducible first | exact HB.out | apply below_alloc | apply pw_below_drewN | apply below_drew1 | refine below_set ?_ (IsS72.ge HI0.out) | refine below_set ?_ GEz1.out | refine below_set ?_ GEz2.out) | exact HB.out)) A32.out).mono ?_; rintro e wv1 ⟨rfl, hi, hb, hk⟩; refine ⟨_, rfl, ?_⟩; replace BKz1 := aM (KeepBut.blk hk (g' := gbz1) (o := .cells #[.int .i64 0, .int .i64 0, .int .i64 0] 23 (0, 0)) (bX BKz1.out) NBz2.out (by simp)); replace BKz2 := aM (KeepBut.blk hk (g' := gbz2) (o := .cells #[.int .i64 t105, .int .i64 x109001_19, .int .i64 0] 23 (0, 0)) (bX BKz2.out) NBz6.out (by simp)); replace HK := aM (KeepBut.trans (kX HK.out) hk (.inl rfl)); replace HB := aM (hb); replace HI0 := aM (hi); clear hb hk hi; obtain ⟨hczv4, hczv5, hczv6, hfzv4, hfzv5, hfzv6⟩ := cZ3 BKz2.out; have hnbv3 := NBz2.out; have hncv3 := NBz1.out; obtain ⟨hczv7, hczv8, hczv9, hfzv7, hfzv8, hfzv9⟩ := cZ3 BKz1.out; obtain ⟨hcq1, hcq2, hcq3, hfq1, hfq2, hfq3⟩ := cZ3 BKz2.out))
          refine bodyPost_ret (results_cell_row rfl _ _ gbz1 23 #[.int .i64 t105, .int .i64 x109001_19, .int .i64 (wrap64 (1 + t117))] (0, 0) _ rfl (bP BKz1.out) Tryd.underlying23 rfl (by kernel_rfl)) rfl ?_
          exact ⟨rE, (i72 HI0.out), (hY HB.out (IsS72.ge HI0.out)), (kX HK.out)⟩
def spec_l4Draw.f (k : Nat) (s0_0 : List Int) (s0_1 : Int) (s0_2 : Int) : Option (Int × Int × Int × Int × Int) := (spec_l4DrawRight.f k s0_0 s0_1 s0_2).bind fun bt102 => ((spec_l1Below.f s0_0 bt102.2.2.2.1 bt102.2.2.2.2 10).bind fun bt108 => (if bt108.1 = 0 then ((spec_l1Below.f s0_0 bt108.2.1 bt108.2.2 13).bind fun bt111 => (some (wrap64 (bt111.1 - 1), bt102.2.1, bt102.2.2.1, bt111.2.1, bt111.2.2))) else (if bt108.1 = 1 then ((spec_l1Below.f s0_0 bt108.2.1 bt108.2.2 7).bind fun bt114 => (some (bt102.1, wrap64 (bt114.1 - 1), bt102.2.2.1, bt114.2.1, bt114.2.2))) else (if bt108.1 = 2 then ((spec_l1Below.f s0_0 bt108.2.1 bt108.2.2 9).bind fun bt117 => (some (bt102.1, bt102.2.1, wrap64 (bt117.1 - 1), bt117.2.1, bt117.2.2))) else (some (bt102.1, bt102.2.1, bt102.2.2.1, bt108.2.1, bt108.2.2))))))
set_option maxHeartbeats 8000000 in
set_option maxRecDepth 100000 in
theorem spec_l4Draw.calls (k : Nat) (g : Nat) (s0_0 : List Int) (s0_1 : Int) (s0_2 : Int) (r1 : Int) (r2 : Int) (r3 : Int) (r4 : Int) (r5 : Int) (w0 w : World) (hI : IsS72 w0 w g s0_0 s0_1 s0_2) (hB : Below w0.heap.size w0 w) (h : spec_l4Draw.f k s0_0 s0_1 s0_2 = some (r1, r2, r3, r4, r5)) :
    Calls Tryd.prog 35 #[.pointer (some ⟨g, 0, none⟩)] w fun e w' => e = .returned (.agg #[.int .i64 r1, .int .i64 r2, .int .i64 r3]) ∧ IsS72 w0 w' g s0_0 r4 r5 ∧ Below w0.heap.size w0 w' ∧ KeepBut w w' g none := by
  have hu23 := Tryd.underlying23
  have HI0 := aM hI
  have HK := aM (KeepBut.refl w g none)
  have HL := aM hB.size
  clear hI
  have HW0 := aM hB.size
  have HB := aM hB
  clear hB
  have H := h
  unfold spec_l4Draw.f at H
  clear h
  replace H := bE H; obtain ⟨⟨t102, t103, t104, t105, t106⟩, A2, H⟩ := H
  try dsimp only at H
  replace H := bE H; obtain ⟨⟨t108, t109, t110⟩, A3, H⟩ := H
  try dsimp only at H
  go_enter Tryd.func35, Tryd.ntmps35
  go_wp2_with (first | (refine boxE 2 #[.int .i64 0, .int .i64 0, .int .i64 0] 23 ?_; intro gbz1 hg wz1 hbox hb; have BKz1 := aM (hbox); have GWz1 := aM ((by rw [hg]; exact (keep_size (w := w) (g := g) (row := none) (kX HK.out)) : w.heap.size ≤ gbz1)); have GEz1 := aM ((Nat.le_trans HW0.out (by rw [hg]; exact (keep_size (w := w) (g := g) (row := none) (kX HK.out)) : w.heap.size ≤ gbz1) : w0.heap.size ≤ gbz1)); have NBz1 := aM ((by rw [hg]; exact Nat.ne_of_lt (IsS72.lt (show IsS72 w0 _ g s0_0 s0_1 s0_2 from (i72 HI0.out))) : g ≠ gbz1)); have NBz2 := aM ((by rw [hg]; exact Nat.ne_of_gt (IsS72.lt (show IsS72 w0 _ g s0_0 s0_1 s0_2 from (i72 HI0.out))) : gbz1 ≠ g)); replace HK := aM (KeepBut.trans (kX HK.out) (KeepBut.of_below hb g none) (.inl rfl)); replace HB := aM (below_step (hY HB.out (IsS72.ge HI0.out)) hb); replace HI0 := aM (IsS72.below (i72 HI0.out) hb); clear hb hbox hg) | (refine goesM 45 5 Tryd.func45 #[.pointer (some ⟨g, 0, none⟩)] ?_; refine (spec_l4DrawRight.calls k g s0_0 s0_1 s0_2 t102 t103 t104 t105 t106 w0 _ (by repeat (first | (with_reducible first | exact HI0.out | apply IsS72.alloc | apply IsS72.drewN | apply IsS72.drew | apply IsS72.set_1 | apply IsS72.set_2 | refine IsS72.far ?_ NBz1.out _) | exact HI0.out)) (by repeat (first | (with_reducible first | exact HB.out | apply below_alloc | apply pw_below_drewN | apply below_drew1 | refine below_set ?_ (IsS72.ge HI0.out) | refine below_set ?_ GEz1.out) | exact HB.out)) A2.out).mono ?_; rintro e wz2 ⟨rfl, hi, hb, hk⟩; refine ⟨_, rfl, ?_⟩; replace BKz1 := aM (KeepBut.blk hk (g' := gbz1) (o := .cells #[.int .i64 0, .int .i64 0, .int .i64 0] 23 (0, 0)) (bX BKz1.out) NBz2.out (by simp)); replace HK := aM (KeepBut.trans (kX HK.out) hk (.inl rfl)); replace HB := aM (hb); replace HI0 := aM (hi); clear hb hk hi) | (refine boxE 3 #[.int .i64 0, .int .i64 0, .int .i64 0] 23 ?_; intro gbz2 hg wz3 hbox hb; have BKz2 := aM (hbox); have GWz2 := aM ((by rw [hg]; exact (keep_size (w := w) (g := g) (row := none) (kX HK.out)) : w.heap.size ≤ gbz2)); have GEz2 := aM ((Nat.le_trans HW0.out (by rw [hg]; exact (keep_size (w := w) (g := g) (row := none) (kX HK.out)) : w.heap.size ≤ gbz2) : w0.heap.size ≤ gbz2)); have NBz3 := aL hg BKz1; have NBz4 := aR hg BKz1; have NBz5 := aM ((by rw [hg]; exact Nat.ne_of_lt (IsS72.lt (show IsS72 w0 _ g s0_0 t105 t106 from (i72 HI0.out))) : g ≠ gbz2)); have NBz6 := aM ((by rw [hg]; exact Nat.ne_of_gt (IsS72.lt (show IsS72 w0 _ g s0_0 t105 t106 from (i72 HI0.out))) : gbz2 ≠ g)); replace BKz1 := aB BKz1 hb; replace HK := aM (KeepBut.trans (kX HK.out) (KeepBut.of_below hb g none) (.inl rfl)); replace HB := aM (below_step (hY HB.out (IsS72.ge HI0.out)) hb); replace HI0 := aM (IsS72.below (i72 HI0.out) hb); clear hb hbox hg; have hnbz1 := NBz4.out; have hncz1 := NBz3.out; have hnbz2 := NBz6.out; have hncz2 := NBz5.out; obtain ⟨hczz1, hczz2, hczz3, hfzz1, hfzz2, hfzz3⟩ := cZ3 BKz2.out; refine Stop.out ?_))
  refine ⟨?_⟩
  by_cases c4 : t108 = 0
  · rw [if_pos c4] at H
    obtain ⟨c4b0, c4b1⟩ := eqT c4
    clear c4
    replace H := bE H; obtain ⟨⟨t111, t112, t113⟩, A5, H⟩ := H
    try dsimp only at H
    simp only [Option.some.injEq, Prod.mk.injEq] at H
    obtain ⟨rfl, rfl, rfl, rfl, rfl⟩ := H
    go_wp2_with (first | (refine goesM 42 7 Tryd.func42 #[.pointer (some ⟨g, 0, none⟩), .int .i64 10] ?_; refine (spec_l1Below.calls g s0_0 t105 t106 10 t108 t109 t110 w0 _ (by repeat (first | (with_reducible first | exact HI0.out | apply IsS72.alloc | apply IsS72.drewN | apply IsS72.drew | apply IsS72.set_1 | apply IsS72.set_2 | refine IsS72.far ?_ NBz1.out _ | refine IsS72.far ?_ NBz5.out _) | exact HI0.out)) (by repeat (first | (with_reducible first | exact HB.out | apply below_alloc | apply pw_below_drewN | apply below_drew1 | refine below_set ?_ (IsS72.ge HI0.out) | refine below_set ?_ GEz1.out | refine below_set ?_ GEz2.out) | exact HB.out)) A3.out).mono ?_; rintro e wz4 ⟨rfl, hi, hb, hk⟩; refine ⟨_, rfl, ?_⟩; replace BKz1 := aM (KeepBut.blk hk (g' := gbz1) (o := .cells #[.int .i64 0, .int .i64 0, .int .i64 0] 23 (0, 0)) (bF BKz1.out) NBz2.out (by simp)); replace BKz2 := aM (KeepBut.blk hk (g' := gbz2) (o := .cells #[.int .i64 t102, .int .i64 t103, .int .i64 t104] 23 (0, 0)) (bP BKz2.out) NBz6.out (by simp)); replace HK := aM (KeepBut.trans (kX HK.out) hk (.inl rfl)); replace HB := aM (hb); replace HI0 := aM (hi); clear hb hk hi) | (refine goesM 42 11 Tryd.func42 #[.pointer (some ⟨g, 0, none⟩), .int .i64 13] ?_; refine (spec_l1Below.calls g s0_0 t109 t110 13 t111 t112 t113 w0 _ (by repeat (first | (with_reducible first | exact HI0.out | apply IsS72.alloc | apply IsS72.drewN | apply IsS72.drew | apply IsS72.set_1 | apply IsS72.set_2 | refine IsS72.far ?_ NBz1.out _ | refine IsS72.far ?_ NBz5.out _) | exact HI0.out)) (by repeat (first | (with_reducible first | exact HB.out | apply below_alloc | apply pw_below_drewN | apply below_drew1 | refine below_set ?_ (IsS72.ge HI0.out) | refine below_set ?_ GEz1.out | refine below_set ?_ GEz2.out) | exact HB.out)) A5.out).mono ?_; rintro e wz5 ⟨rfl, hi, hb, hk⟩; refine ⟨_, rfl, ?_⟩; replace BKz1 := aM (KeepBut.blk hk (g' := gbz1) (o := .cells #[.int .i64 0, .int .i64 0, .int .i64 0] 23 (0, 0)) (bX BKz1.out) NBz2.out (by simp)); replace BKz2 := aM (KeepBut.blk hk (g' := gbz2) (o := .cells #[.int .i64 t102, .int .i64 t103, .int .i64 t104] 23 (0, 0)) (bX BKz2.out) NBz6.out (by simp)); replace HK := aM (KeepBut.trans (kX HK.out) hk (.inl rfl)); replace HB := aM (hb); replace HI0 := aM (hi); clear hb hk hi; obtain ⟨hczz4, hczz5, hczz6, hfzz4, hfzz5, hfzz6⟩ := cZ3 BKz2.out; have hnbz3 := NBz2.out; have hncz3 := NBz1.out; obtain ⟨hczz7, hczz8, hczz9, hfzz7, hfzz8, hfzz9⟩ := cZ3 BKz1.out))
    refine bodyPost_ret (results_cell_row rfl _ _ gbz1 23 #[.int .i64 (wrap64 (t111 - 1)), .int .i64 t103, .int .i64 t104] (0, 0) _ rfl (bP BKz1.out) Tryd.underlying23 rfl (by kernel_rfl)) rfl ?_
    exact ⟨rE, (i72 HI0.out), (hY HB.out (IsS72.ge HI0.out)), (kX HK.out)⟩
  rw [if_neg c4] at H
  obtain ⟨c4b0, c4b1⟩ := eqF c4
  by_cases c17 : t108 = 1
  · rw [if_pos c17] at H
    obtain ⟨c17b0, c17b1⟩ := eqT c17
    clear c17
    replace H := bE H; obtain ⟨⟨t114, t115, t116⟩, A18, H⟩ := H
    try dsimp only at H
    simp only [Option.some.injEq, Prod.mk.injEq] at H
    obtain ⟨rfl, rfl, rfl, rfl, rfl⟩ := H
    go_wp2_with (first | (refine goesM 42 7 Tryd.func42 #[.pointer (some ⟨g, 0, none⟩), .int .i64 10] ?_; refine (spec_l1Below.calls g s0_0 t105 t106 10 t108 t109 t110 w0 _ (by repeat (first | (with_reducible first | exact HI0.out | apply IsS72.alloc | apply IsS72.drewN | apply IsS72.drew | apply IsS72.set_1 | apply IsS72.set_2 | refine IsS72.far ?_ NBz1.out _ | refine IsS72.far ?_ NBz5.out _) | exact HI0.out)) (by repeat (first | (with_reducible first | exact HB.out | apply below_alloc | apply pw_below_drewN | apply below_drew1 | refine below_set ?_ (IsS72.ge HI0.out) | refine below_set ?_ GEz1.out | refine below_set ?_ GEz2.out) | exact HB.out)) A3.out).mono ?_; rintro e wz4 ⟨rfl, hi, hb, hk⟩; refine ⟨_, rfl, ?_⟩; replace BKz1 := aM (KeepBut.blk hk (g' := gbz1) (o := .cells #[.int .i64 0, .int .i64 0, .int .i64 0] 23 (0, 0)) (bF BKz1.out) NBz2.out (by simp)); replace BKz2 := aM (KeepBut.blk hk (g' := gbz2) (o := .cells #[.int .i64 t102, .int .i64 t103, .int .i64 t104] 23 (0, 0)) (bP BKz2.out) NBz6.out (by simp)); replace HK := aM (KeepBut.trans (kX HK.out) hk (.inl rfl)); replace HB := aM (hb); replace HI0 := aM (hi); clear hb hk hi) | (refine goesM 42 17 Tryd.func42 #[.pointer (some ⟨g, 0, none⟩), .int .i64 7] ?_; refine (spec_l1Below.calls g s0_0 t109 t110 7 t114 t115 t116 w0 _ (by repeat (first | (with_reducible first | exact HI0.out | apply IsS72.alloc | apply IsS72.drewN | apply IsS72.drew | apply IsS72.set_1 | apply IsS72.set_2 | refine IsS72.far ?_ NBz1.out _ | refine IsS72.far ?_ NBz5.out _) | exact HI0.out)) (by repeat (first | (with_reducible first | exact HB.out | apply below_alloc | apply pw_below_drewN | apply below_drew1 | refine below_set ?_ (IsS72.ge HI0.out) | refine below_set ?_ GEz1.out | refine below_set ?_ GEz2.out) | exact HB.out)) A18.out).mono ?_; rintro e wz5 ⟨rfl, hi, hb, hk⟩; refine ⟨_, rfl, ?_⟩; replace BKz1 := aM (KeepBut.blk hk (g' := gbz1) (o := .cells #[.int .i64 0, .int .i64 0, .int .i64 0] 23 (0, 0)) (bX BKz1.out) NBz2.out (by simp)); replace BKz2 := aM (KeepBut.blk hk (g' := gbz2) (o := .cells #[.int .i64 t102, .int .i64 t103, .int .i64 t104] 23 (0, 0)) (bX BKz2.out) NBz6.out (by simp)); replace HK := aM (KeepBut.trans (kX HK.out) hk (.inl rfl)); replace HB := aM (hb); replace HI0 := aM (hi); clear hb hk hi; obtain ⟨hczz4, hczz5, hczz6, hfzz4, hfzz5, hfzz6⟩ := cZ3 BKz2.out; have hnbz3 := NBz2.out; have hncz3 := NBz1.out; obtain ⟨hczz7, hczz8, hczz9, hfzz7, hfzz8, hfzz9⟩ := cZ3 BKz1.out))
    refine bodyPost_ret (results_cell_row rfl _ _ gbz1 23 #[.int .i64 t102, .int .i64 (wrap64 (t114 - 1)), .int .i64 t104] (0, 0) _ rfl (bP BKz1.out) Tryd.underlying23 rfl (by kernel_rfl)) rfl ?_
    exact ⟨rE, (i72 HI0.out), (hY HB.out (IsS72.ge HI0.out)), (kX HK.out)⟩
  rw [if_neg c17] at H
  obtain ⟨c17b0, c17b1⟩ := eqF c17
  by_cases c30 : t108 = 2
  case neg =>
    rw [if_neg c30] at H
    obtain ⟨c30b0, c30b1⟩ := eqF c30
    simp only [Option.some.injEq, Prod.mk.injEq] at H
    obtain ⟨rfl, rfl, rfl, rfl, rfl⟩ := H
    go_wp2_with (first | (refine goesM 42 7 Tryd.func42 #[.pointer (some ⟨g, 0, none⟩), .int .i64 10] ?_; refine (spec_l1Below.calls g s0_0 t105 t106 10 t108 t109 t110 w0 _ (by repeat (first | (with_reducible first | exact HI0.out | apply IsS72.alloc | apply IsS72.drewN | apply IsS72.drew | apply IsS72.set_1 | apply IsS72.set_2 | refine IsS72.far ?_ NBz1.out _ | refine IsS72.far ?_ NBz5.out _) | exact HI0.out)) (by repeat (first | (with_reducible first | exact HB.out | apply below_alloc | apply pw_below_drewN | apply below_drew1 | refine below_set ?_ (IsS72.ge HI0.out) | refine below_set ?_ GEz1.out | refine below_set ?_ GEz2.out) | exact HB.out)) A3.out).mono ?_; rintro e wz4 ⟨rfl, hi, hb, hk⟩; refine ⟨_, rfl, ?_⟩; replace BKz1 := aM (KeepBut.blk hk (g' := gbz1) (o := .cells #[.int .i64 0, .int .i64 0, .int .i64 0] 23 (0, 0)) (bF BKz1.out) NBz2.out (by simp)); replace BKz2 := aM (KeepBut.blk hk (g' := gbz2) (o := .cells #[.int .i64 t102, .int .i64 t103, .int .i64 t104] 23 (0, 0)) (bP BKz2.out) NBz6.out (by simp)); replace HK := aM (KeepBut.trans (kX HK.out) hk (.inl rfl)); replace HB := aM (hb); replace HI0 := aM (hi); clear hb hk hi; obtain ⟨hczz4, hczz5, hczz6, hfzz4, hfzz5, hfzz6⟩ := cZ3 BKz2.out; have hnbz3 := NBz2.out; have hncz3 := NBz1.out; obtain ⟨hczz7, hczz8, hczz9, hfzz7, hfzz8, hfzz9⟩ := cZ3 BKz1.out))
    refine bodyPost_ret (results_cell_row rfl _ _ gbz1 23 #[.int .i64 t102, .int .i64 t103, .int .i64 t104] (0, 0) _ rfl (bP BKz1.out) Tryd.underlying23 rfl (by kernel_rfl)) rfl ?_
    exact ⟨rE, (i72 HI0.out), (hY HB.out (IsS72.ge HI0.out)), (kX HK.out)⟩
  rw [if_pos c30] at H
  obtain ⟨c30b0, c30b1⟩ := eqT c30
  clear c30
  replace H := bE H; obtain ⟨⟨t117, t118, t119⟩, A31, H⟩ := H
  try dsimp only at H
  simp only [Option.some.injEq, Prod.mk.injEq] at H
  obtain ⟨rfl, rfl, rfl, rfl, rfl⟩ := H
  go_wp2_with (first | (refine goesM 42 7 Tryd.func42 #[.pointer (some ⟨g, 0, none⟩), .int .i64 10] ?_; refine (spec_l1Below.calls g s0_0 t105 t106 10 t108 t109 t110 w0 _ (by repeat (first | (with_reducible first | exact HI0.out | apply IsS72.alloc | apply IsS72.drewN | apply IsS72.drew | apply IsS72.set_1 | apply IsS72.set_2 | refine IsS72.far ?_ NBz1.out _ | refine IsS72.far ?_ NBz5.out _) | exact HI0.out)) (by repeat (first | (with_reducible first | exact HB.out | apply below_alloc | apply pw_below_drewN | apply below_drew1 | refine below_set ?_ (IsS72.ge HI0.out) | refine below_set ?_ GEz1.out | refine below_set ?_ GEz2.out) | exact HB.out)) A3.out).mono ?_; rintro e wz4 ⟨rfl, hi, hb, hk⟩; refine ⟨_, rfl, ?_⟩; replace BKz1 := aM (KeepBut.blk hk (g' := gbz1) (o := .cells #[.int .i64 0, .int .i64 0, .int .i64 0] 23 (0, 0)) (bF BKz1.out) NBz2.out (by simp)); replace BKz2 := aM (KeepBut.blk hk (g' := gbz2) (o := .cells #[.int .i64 t102, .int .i64 t103, .int .i64 t104] 23 (0, 0)) (bP BKz2.out) NBz6.out (by simp)); replace HK := aM (KeepBut.trans (kX HK.out) hk (.inl rfl)); replace HB := aM (hb); replace HI0 := aM (hi); clear hb hk hi) | (refine goesM 42 23 Tryd.func42 #[.pointer (some ⟨g, 0, none⟩), .int .i64 9] ?_; refine (spec_l1Below.calls g s0_0 t109 t110 9 t117 t118 t119 w0 _ (by repeat (first | (with_reducible first | exact HI0.out | apply IsS72.alloc | apply IsS72.drewN | apply IsS72.drew | apply IsS72.set_1 | apply IsS72.set_2 | refine IsS72.far ?_ NBz1.out _ | refine IsS72.far ?_ NBz5.out _) | exact HI0.out)) (by repeat (first | (with_reducible first | exact HB.out | apply below_alloc | apply pw_below_drewN | apply below_drew1 | refine below_set ?_ (IsS72.ge HI0.out) | refine below_set ?_ GEz1.out | refine below_set ?_ GEz2.out) | exact HB.out)) A31.out).mono ?_; rintro e wz5 ⟨rfl, hi, hb, hk⟩; refine ⟨_, rfl, ?_⟩; replace BKz1 := aM (KeepBut.blk hk (g' := gbz1) (o := .cells #[.int .i64 0, .int .i64 0, .int .i64 0] 23 (0, 0)) (bX BKz1.out) NBz2.out (by simp)); replace BKz2 := aM (KeepBut.blk hk (g' := gbz2) (o := .cells #[.int .i64 t102, .int .i64 t103, .int .i64 t104] 23 (0, 0)) (bX BKz2.out) NBz6.out (by simp)); replace HK := aM (KeepBut.trans (kX HK.out) hk (.inl rfl)); replace HB := aM (hb); replace HI0 := aM (hi); clear hb hk hi; obtain ⟨hczz4, hczz5, hczz6, hfzz4, hfzz5, hfzz6⟩ := cZ3 BKz2.out; have hnbz3 := NBz2.out; have hncz3 := NBz1.out; obtain ⟨hczz7, hczz8, hczz9, hfzz7, hfzz8, hfzz9⟩ := cZ3 BKz1.out))
  refine bodyPost_ret (results_cell_row rfl _ _ gbz1 23 #[.int .i64 t102, .int .i64 t103, .int .i64 (wrap64 (t117 - 1))] (0, 0) _ rfl (bP BKz1.out) Tryd.underlying23 rfl (by kernel_rfl)) rfl ?_
  exact ⟨rE, (i72 HI0.out), (hY HB.out (IsS72.ge HI0.out)), (kX HK.out)⟩
def spec_l1New.l0 : Nat → List Int → Int → Int → Option (List Int × Int × Int)
  | 0, _, _, _ => none
  | k + 1, x0, x3, x4 => if x4 < (x0.length : Int) then (if x4 < 4000 then (if 0 ≤ x4 then (spec_l1New.l0 k x0 (Go.bits .and .i64 (wrap64 ((wrap64 ((wrap64 (x3 * 131)) + (wrap64 (rd x0 x4)))) + 7)) 1073741823) (wrap64 (x4 + 1))) else (none)) else (some (x0, 0, x3))) else (some (x0, 0, x3))
def spec_l1New.f (k : Nat) (l0 : List Int) : Option (List Int × Int × Int) := spec_l1New.l0 k l0 (wrap64 (27323 + (l0.length : Int))) 0
set_option maxHeartbeats 8000000 in
set_option maxRecDepth 100000 in
theorem spec_l1New.calls (k : Nat) (A0 : Option Addr) (c0 : Nat) (l0 : List Int) (r1 : List Int) (r2 : Int) (r3 : Int) (w0 w : World) (hB : Below w0.heap.size w0 w) (hr0 : Kd.C (Kd.int .u8) w0 A0 l0.length l0) (hc0 : l0.length ≤ c0) (h : spec_l1New.f k l0 = some (r1, r2, r3)) :
    Calls Tryd.prog 36 #[.slice A0 l0.length c0] w fun e w' => ∃ g_ : Nat, e = .returned (.pointer (some ⟨g_, 0, none⟩)) ∧ IsS72 w0 w' g_ r1 r2 r3 ∧ Below w0.heap.size w0 w' ∧ Below w.heap.size w w' := by
  have hu72 := Tryd.underlying72
  have HR0 := aM hr0
  have HC0 := aM hc0
  clear hr0 hc0
  have HBW := aM (Below.refl w.heap.size w)
  have HW0 := aM hB.size
  have HB := aM hB
  clear hB
  have H := h
  unfold spec_l1New.f at H
  clear h
  have H' := aM H
  clear H
  go_enter Tryd.func36, Tryd.ntmps36
  go_wp2
  go_loopg [3, 4] k (fun kq v3 v4 w' => ∃ (x3_1 : Int) (x4_1 : Int), v3 = .int .i64 x3_1 ∧ v4 = .int .i64 x4_1 ∧ Aside0 (spec_l1New.l0 kq l0 x3_1 x4_1 = some (r1, r2, r3)) ∧ Aside0 (kq ≤ k) ∧ Aside0 (Below w0.heap.size w0 w') ∧ Aside0 (Below w.heap.size w w'))
  case atStart => exact ⟨(wrap64 (27323 + (l0.length : Int))), (0), rS, rS, H', ⟨Nat.le_refl _⟩, ⟨(hX HB.out)⟩, ⟨(hX HBW.out)⟩⟩
  case round =>
    clear H'
    obtain ⟨x3_1, x4_1, rfl, rfl, HA, HKy1, HB, HBW⟩ := hrel
    cases gk with
    | zero => exact absurd HA.out (by simp [spec_l1New.l0])
    | succ k1 =>
      have H := HA.out
      clear HA
      simp only [spec_l1New.l0] at H
      by_cases c2 : x4_1 < (l0.length : Int)
      case neg =>
        rw [if_neg c2] at H
        have c2b0 := decide_eq_false c2
        clear c2
        simp only [Option.some.injEq, Prod.mk.injEq] at H
        obtain ⟨rfl, rfl, rfl⟩ := H
        go_wp2_with (first | (refine boxE 31 #[.slice A0 l0.length c0, .int .i64 0, .int .i64 x3_1] 72 ?_; intro gbx1 hg wx1 hbox hb; have BKx1 := aM (hbox); have GWx1 := aM (gX' hg (hX HBW.out)); have GEx1 := aM ((Nat.le_trans HW0.out (by rw [hg]; exact (below_size (hX HBW.out)) : w.heap.size ≤ gbx1) : w0.heap.size ≤ gbx1)); replace HBW := aM (below_step HBW.out hb); replace HB := aS HB hb; clear hb hbox hg))
        go_ret
        exact ⟨_, rfl, (show IsS72 w0 _ gbx1 l0 0 x3_1 from ⟨_, _, (bX BKx1.out), GEx1.out, HR0.out⟩), (hX HB.out), (hX HBW.out)⟩
      rw [if_pos c2] at H
      have c2b0 := decide_eq_true c2
      clear c2
      by_cases c3 : x4_1 < 4000
      case neg =>
        rw [if_neg c3] at H
        have c3b0 := decide_eq_false c3
        clear c3
        simp only [Option.some.injEq, Prod.mk.injEq] at H
        obtain ⟨rfl, rfl, rfl⟩ := H
        go_wp2_with (first | (refine boxE 31 #[.slice A0 l0.length c0, .int .i64 0, .int .i64 x3_1] 72 ?_; intro gbx1 hg wx1 hbox hb; have BKx1 := aM (hbox); have GWx1 := aM (gX' hg (hX HBW.out)); have GEx1 := aM ((Nat.le_trans HW0.out (by rw [hg]; exact (below_size (hX HBW.out)) : w.heap.size ≤ gbx1) : w0.heap.size ≤ gbx1)); replace HBW := aM (below_step HBW.out hb); replace HB := aS HB hb; clear hb hbox hg))
        go_ret
        exact ⟨_, rfl, (show IsS72 w0 _ gbx1 l0 0 x3_1 from ⟨_, _, (bX BKx1.out), GEx1.out, HR0.out⟩), (hX HB.out), (hX HBW.out)⟩
      rw [if_pos c3] at H
      have c3b0 := decide_eq_true c3
      clear c3
      replace H := ifP H; obtain ⟨c4, H⟩ := H
      have c4b0 := decide_eq_true c4
      clear c4
      have H' := aM H
      clear H
      have px1 : 0 ≤ (x4_1 : Int) := odA
      have qx1 : x4_1 < (l0.length : Int) := odA
      obtain ⟨adx1, ex1, hxx1⟩ := Kd.at_int HR0.out x4_1 px1 qx1
      cases ex1
      replace hxx1 := pw_cell_below HB.out hxx1
      replace px1 := eq_true px1
      replace qx1 := eq_true qx1
      go_wp2
      go_roundg k1
      case measure => have := HKy1.out; omega
      case rel => exact ⟨(Go.bits .and .i64 (wrap64 ((wrap64 ((wrap64 (x3_1 * 131)) + (wrap64 (rd l0 x4_1)))) + 7)) 1073741823), (wrap64 (x4_1 + 1)), rS, rS, H', ⟨by have := HKy1.out; omega⟩, ⟨(hX HB.out)⟩, ⟨(hX HBW.out)⟩⟩
def spec_DrawOpText.f (k : Nat) (l0 : List Int) : Option (Int × Int × Int) := (spec_l1New.f k l0).bind fun bt102 => ((spec_l4Draw.f k bt102.1 bt102.2.1 bt102.2.2).bind fun bt106 => (some (bt106.1, bt106.2.1, bt106.2.2.1)))
set_option maxHeartbeats 8000000 in
set_option maxRecDepth 100000 in
theorem spec_DrawOpText.calls (k : Nat) (A0 : Option Addr) (c0 : Nat) (l0 : List Int) (r1 : Int) (r2 : Int) (r3 : Int) (w : World) (hr0 : Kd.C (Kd.int .u8) w A0 l0.length l0) (hc0 : l0.length ≤ c0) (h : spec_DrawOpText.f k l0 = some (r1, r2, r3)) :
    Calls Tryd.prog 15 #[.slice A0 l0.length c0] w fun e w' => e = .returned (.agg #[.int .i64 r1, .int .i64 r2, .int .i64 r3]) ∧ Below w.heap.size w w' := by
  have hu23 := Tryd.underlying23
  have HR0 := aM hr0
  have HC0 := aM hc0
  clear hr0 hc0
  have HB := aM (Below.refl w.heap.size w)
  have H := h
  unfold spec_DrawOpText.f at H
  clear h
  replace H := bE H; obtain ⟨⟨t102, t103, t104⟩, A2, H⟩ := H
  try dsimp only at H
  replace H := bE H; obtain ⟨⟨t106, t107, t108, t109, t110⟩, A3, H⟩ := H
  try dsimp only at H
  simp only [Option.some.injEq, Prod.mk.injEq] at H
  obtain ⟨rfl, rfl, rfl⟩ := H
  go_enter Tryd.func15, Tryd.ntmps15
  go_wp2_with (first | (refine boxE 2 #[.int .i64 0, .int .i64 0, .int .i64 0] 23 ?_; intro gbz1 hg wz1 hbox hb; have BKz1 := aM (hbox); have GWz1 := aG hg HB; have GEz1 := aG hg HB; replace HB := aS HB hb; clear hb hbox hg) | (refine goesM 36 4 Tryd.func36 #[.slice A0 l0.length c0] ?_; refine (spec_l1New.calls k _ _ l0 t102 t103 t104 w _ (by repeat (first | (with_reducible first | exact HB.out | apply below_alloc | apply pw_below_drewN | apply below_drew1 | refine below_set ?_ GEz1.out) | exact HB.out)) HR0.out HC0.out A2.out).mono ?_; rintro e wz2 ⟨gz1, rfl, hi, hb, hbz1⟩; refine ⟨_, rfl, ?_⟩; have HIz1 := aM (hi); have NBz1 := aM (IsS72.ne_blk hi (blk_below (g := gbz1) (o := .cells #[.int .i64 0, .int .i64 0, .int .i64 0] 23 (0, 0)) (bX BKz1.out) hbz1) (by decide)); have NBz2 := aM (Ne.symm (IsS72.ne_blk hi (blk_below (g := gbz1) (o := .cells #[.int .i64 0, .int .i64 0, .int .i64 0] 23 (0, 0)) (bX BKz1.out) hbz1) (by decide))); replace BKz1 := aM (blk_below (g := gbz1) (o := .cells #[.int .i64 0, .int .i64 0, .int .i64 0] 23 (0, 0)) (bX BKz1.out) hbz1); replace HB := aM (hb); clear hb hbz1 hi) | (refine goesM 35 5 Tryd.func35 #[.pointer (some ⟨gz1, 0, none⟩)] ?_; refine (spec_l4Draw.calls k gz1 t102 t103 t104 t106 t107 t108 t109 t110 w _ (by repeat (first | (with_reducible first | exact HIz1.out | apply IsS72.alloc | apply IsS72.drewN | apply IsS72.drew | apply IsS72.set_1 | apply IsS72.set_2 | refine IsS72.far ?_ NBz1.out _) | exact HIz1.out)) (by repeat (first | (with_reducible first | exact HB.out | apply below_alloc | apply pw_below_drewN | apply below_drew1 | refine below_set ?_ (IsS72.ge HIz1.out) | refine below_set ?_ GEz1.out) | exact HB.out)) A3.out).mono ?_; rintro e wz3 ⟨rfl, hi, hb, hk⟩; refine ⟨_, rfl, ?_⟩; replace BKz1 := aM (KeepBut.blk hk (g' := gbz1) (o := .cells #[.int .i64 0, .int .i64 0, .int .i64 0] 23 (0, 0)) (bX BKz1.out) NBz2.out (by simp)); replace HB := aM (hb); replace HIz1 := aM (hi); clear hb hk hi; have hnbz1 := NBz2.out; have hncz1 := NBz1.out; obtain ⟨hczz1, hczz2, hczz3, hfzz1, hfzz2, hfzz3⟩ := cZ3 BKz1.out))
  refine bodyPost_ret (results_cell_row rfl _ _ gbz1 23 #[.int .i64 t106, .int .i64 t107, .int .i64 t108] (0, 0) _ rfl (bP BKz1.out) Tryd.underlying23 rfl (by kernel_rfl)) rfl ?_
  exact ⟨rE, (hY HB.out (IsS72.ge HIz1.out))⟩
end Go.Proofs.YtafcfhgdblefgaaDoor.P
namespace Go.Proofs.YtafcfhgdblefgaaDoorZ
open Go.RowKit Go.Proofs.YtafcfhgdblefgaaDoorW.PrintWords Go.Proofs.YtafcfhgdblefgaaDoorW.PrintLast
theorem now_ {P : Program} {ops : Array Oper} {Q : Exit → Act → World → Prop} {md : Region.Mode} {S : World → Prop} {ds : List Nat} {i : Nat} {N : Option Tmp} {oi : Oper} {v : Value} {fuel : Nat} {l : Array Bool} {a : Act} {w : World} (l' : Array Bool) (hi : ops[i]? = some oi) (hN : oi.dst = N)
    (hc : readyB md ops l l' i = true) (hd : i ∉ ds) (hg : oi.guard = none) (hrun : (execOp a.eval oi).run P w = .ok (.value v) w) (hS : S w) {a' : Act} (ha : a.put N v = a')
    (h : wpAnyLast P md ops Q S ds fuel l' a' w) : wpAnyLast P md ops Q S ds (fuel + 1) l a w := by
  subst ha
  refine one_ l' hi hN hc hd (fun K hK => ?_)
  subst hN
  have hk := hK.out _ _ hS (fun _ => h)
  have hw : Region.wanted oi (yielded ops a.tmps) = true := by simp [Region.wanted, hg]
  rw [if_pos hw]
  unfold Oper.wp
  rw [hrun]
  exact hk
end Go.Proofs.YtafcfhgdblefgaaDoorZ
namespace Go.Proofs.YtafcfhgdblefgaaDoor.P
open Go.Proofs.YtafcfhgdblefgaaDoorZ Go.RowKit Go.Proofs.YtafcfhgdblefgaaDoorW.PrintWords Go.Proofs.YtafcfhgdblefgaaDoorW.PrintLast Go.Proofs.YtafcfhgdblefgaaDoorW.PrintMore
attribute [local go_sem] max2_int min2_int max_two min_two max_three min_three max_four min_four   -- for this text's walks alone
def spec_l14Names.f  : Option (List ByteArray) := some (([(⟨#[]⟩ : ByteArray), (⟨#[112, 117, 116]⟩ : ByteArray), (⟨#[115, 101, 116]⟩ : ByteArray), (⟨#[100, 101, 108]⟩ : ByteArray), (⟨#[103, 101, 116]⟩ : ByteArray), (⟨#[102, 105, 110, 100]⟩ : ByteArray), (⟨#[99, 111, 117, 110, 116]⟩ : ByteArray), (⟨#[115, 99, 97, 110]⟩ : ByteArray), (⟨#[111, 112, 101, 110]⟩ : ByteArray), (⟨#[109, 97, 107, 101]⟩ : ByteArray), (⟨#[118, 105, 97]⟩ : ByteArray)] : List ByteArray))
set_option maxHeartbeats 8000000 in
set_option maxRecDepth 100000 in
theorem spec_l14Names.calls  (r : List ByteArray) (w : World) (h : spec_l14Names.f  = some r) :
    Calls Tryd.prog 28 #[] w fun e w' => ∃ v0_ : Value, e = .returned (v0_) ∧ Kd.R Kd.string 9 w' w.heap.size (fun _ => True) v0_ r ∧ Below w.heap.size w w' := by
  have HB := aM (Below.refl w.heap.size w)
  have H := h
  unfold spec_l14Names.f at H
  clear h
  obtain ⟨y101, hy101⟩ : ∃ y_ : List ByteArray, y_ = (([(⟨#[]⟩ : ByteArray), (⟨#[112, 117, 116]⟩ : ByteArray), (⟨#[115, 101, 116]⟩ : ByteArray), (⟨#[100, 101, 108]⟩ : ByteArray), (⟨#[103, 101, 116]⟩ : ByteArray), (⟨#[102, 105, 110, 100]⟩ : ByteArray), (⟨#[99, 111, 117, 110, 116]⟩ : ByteArray), (⟨#[115, 99, 97, 110]⟩ : ByteArray), (⟨#[111, 112, 101, 110]⟩ : ByteArray), (⟨#[109, 97, 107, 101]⟩ : ByteArray), (⟨#[118, 105, 97]⟩ : ByteArray)] : List ByteArray)) := ⟨_, rfl⟩
  replace H : (some y101) = some r := yH H hy101
  have Ny101 := aM hy101
  clear hy101
  obtain rfl := sI H
  go_enter Tryd.func28, Tryd.ntmps28
  go_wp2_with (first | ((with_reducible refine gate_dst (N := 1) rfl ?_); refine Kd.R_lit Kd.string _ 9 ?hg (N := 1) ?hd (xs := ([(⟨#[]⟩ : ByteArray), (⟨#[112, 117, 116]⟩ : ByteArray), (⟨#[115, 101, 116]⟩ : ByteArray), (⟨#[100, 101, 108]⟩ : ByteArray), (⟨#[103, 101, 116]⟩ : ByteArray), (⟨#[102, 105, 110, 100]⟩ : ByteArray), (⟨#[99, 111, 117, 110, 116]⟩ : ByteArray), (⟨#[115, 99, 97, 110]⟩ : ByteArray), (⟨#[111, 112, 101, 110]⟩ : ByteArray), (⟨#[109, 97, 107, 101]⟩ : ByteArray), (⟨#[118, 105, 97]⟩ : ByteArray)] : List ByteArray)) (inner := [.string (⟨#[]⟩ : ByteArray), .string (⟨#[112, 117, 116]⟩ : ByteArray), .string (⟨#[115, 101, 116]⟩ : ByteArray), .string (⟨#[100, 101, 108]⟩ : ByteArray), .string (⟨#[103, 101, 116]⟩ : ByteArray), .string (⟨#[102, 105, 110, 100]⟩ : ByteArray), .string (⟨#[99, 111, 117, 110, 116]⟩ : ByteArray), .string (⟨#[115, 99, 97, 110]⟩ : ByteArray), .string (⟨#[111, 112, 101, 110]⟩ : ByteArray), .string (⟨#[109, 97, 107, 101]⟩ : ByteArray), .string (⟨#[118, 105, 97]⟩ : ByteArray)]) (ok := fun _ => True) (okp := fun _ => True) ?hr ?hp (fun _ hk => hk) trivial (Below.refl _ _) (Nat.le_refl _) (by simp) ?_; (case hd => rfl); (case hg => rfl); (case hr => first | (go_simp; done) | (go_simp; rfl)); (case hp => exact (Reps.one (show Kd.M Kd.string _ _ _ (⟨#[]⟩ : ByteArray) [.string (⟨#[]⟩ : ByteArray)] from rfl) (Reps.one (show Kd.M Kd.string _ _ _ (⟨#[112, 117, 116]⟩ : ByteArray) [.string (⟨#[112, 117, 116]⟩ : ByteArray)] from rfl) (Reps.one (show Kd.M Kd.string _ _ _ (⟨#[115, 101, 116]⟩ : ByteArray) [.string (⟨#[115, 101, 116]⟩ : ByteArray)] from rfl) (Reps.one (show Kd.M Kd.string _ _ _ (⟨#[100, 101, 108]⟩ : ByteArray) [.string (⟨#[100, 101, 108]⟩ : ByteArray)] from rfl) (Reps.one (show Kd.M Kd.string _ _ _ (⟨#[103, 101, 116]⟩ : ByteArray) [.string (⟨#[103, 101, 116]⟩ : ByteArray)] from rfl) (Reps.one (show Kd.M Kd.string _ _ _ (⟨#[102, 105, 110, 100]⟩ : ByteArray) [.string (⟨#[102, 105, 110, 100]⟩ : ByteArray)] from rfl) (Reps.one (show Kd.M Kd.string _ _ _ (⟨#[99, 111, 117, 110, 116]⟩ : ByteArray) [.string (⟨#[99, 111, 117, 110, 116]⟩ : ByteArray)] from rfl) (Reps.one (show Kd.M Kd.string _ _ _ (⟨#[115, 99, 97, 110]⟩ : ByteArray) [.string (⟨#[115, 99, 97, 110]⟩ : ByteArray)] from rfl) (Reps.one (show Kd.M Kd.string _ _ _ (⟨#[111, 112, 101, 110]⟩ : ByteArray) [.string (⟨#[111, 112, 101, 110]⟩ : ByteArray)] from rfl) (Reps.one (show Kd.M Kd.string _ _ _ (⟨#[109, 97, 107, 101]⟩ : ByteArray) [.string (⟨#[109, 97, 107, 101]⟩ : ByteArray)] from rfl) (Reps.one (show Kd.M Kd.string _ _ _ (⟨#[118, 105, 97]⟩ : ByteArray) [.string (⟨#[118, 105, 97]⟩ : ByteArray)] from rfl) (Reps.none _ _))))))))))))); intro vz1 wz1 hoz1 hb hg_ hnew_; clear hg_ hnew_; (first | rw [← Ny101.out] at hoz1 | (simp only [Int.reduceToNat] at hoz1; rw [← Ny101.out] at hoz1)); have HOz1 := aM (Kd.R_lower hoz1 (below_size (hX HB.out))); replace HB := aS HB hb; clear hb hoz1))
  go_ret
  exact ⟨_, rE, (rX HOz1.out), (hX HB.out)⟩
def spec_KeyOk.f (a0 : Int) : Option (Bool) := (spec_l1In.f a0 0 3).bind fun t101 => (some t101)
set_option maxHeartbeats 8000000 in
set_option maxRecDepth 100000 in
theorem spec_KeyOk.calls (a0 : Int) (r : Bool) (w : World) (h : spec_KeyOk.f a0 = some r) :
    Calls Tryd.prog 56 #[.int .i64 a0] w fun e w' => e = .returned (.bool r) ∧ Drawn0 w w' := by
  have H := h
  unfold spec_KeyOk.f at H
  clear h
  replace H := bE H; obtain ⟨t101, A2, H⟩ := H
  obtain rfl := sI H
  go_enter Tryd.func56, Tryd.ntmps56
  go_wp2_with (first | (refine goesM 51 4 Tryd.func51 #[.int .i64 a0, .int .i64 0, .int .i64 3] ?_; refine (spec_l1In.calls _ _ _ _ _ A2.out).mono ?_; rintro e w' ⟨rfl, ⟨nd, rfl⟩⟩; refine ⟨_, rfl, ?_⟩))
  go_ret
  exact ⟨by first | rfl | (simp; done) | (simp [*]; done), dX⟩
def spec_ValOk.f (a0 : Int) : Option (Bool) := (spec_l1In.f a0 1 6).bind fun t101 => (some t101)
set_option maxHeartbeats 8000000 in
set_option maxRecDepth 100000 in
theorem spec_ValOk.calls (a0 : Int) (r : Bool) (w : World) (h : spec_ValOk.f a0 = some r) :
    Calls Tryd.prog 57 #[.int .i64 a0] w fun e w' => e = .returned (.bool r) ∧ Drawn0 w w' := by
  have H := h
  unfold spec_ValOk.f at H
  clear h
  replace H := bE H; obtain ⟨t101, A2, H⟩ := H
  obtain rfl := sI H
  go_enter Tryd.func57, Tryd.ntmps57
  go_wp2_with (first | (refine goesM 51 4 Tryd.func51 #[.int .i64 a0, .int .i64 1, .int .i64 6] ?_; refine (spec_l1In.calls _ _ _ _ _ A2.out).mono ?_; rintro e w' ⟨rfl, ⟨nd, rfl⟩⟩; refine ⟨_, rfl, ?_⟩))
  go_ret
  exact ⟨by first | rfl | (simp; done) | (simp [*]; done), dX⟩
mutual
def spec_OpOk.j0 : Nat → Bool → Int → Int → Int → Option (Bool)
  | 0, _, _, _, _ => none
  | k + 1, x3, x102000, x102001, x102002 => if x102000 = 6 then ((spec_l1In.f x102001 0 2).bind fun t105 => (spec_OpOk.j1 k t105 x102000 x102001 x102002)) else (spec_OpOk.j1 k x3 x102000 x102001 x102002)
def spec_OpOk.j1 : Nat → Bool → Int → Int → Int → Option (Bool)
  | 0, _, _, _, _ => none
  | k + 1, x3, x102000, x102001, x102002 => (spec_l4Val.f x102000).bind fun t106 => (if t106 = true then (if x3 = true then ((spec_ValOk.f x102002).bind fun t107 => (some t107)) else (some false)) else (if x3 = true then (some (x102002 == 0)) else (some false)))
end
def spec_OpOk.f (k : Nat) (a0_0 : Int) (a0_1 : Int) (a0_2 : Int) : Option (Bool) := (spec_l1In.f a0_0 1 10).bind fun t102 => (if t102 = true then ((spec_l4Key.f a0_0).bind fun t103 => (if t103 = true then ((spec_KeyOk.f a0_1).bind fun t104 => (spec_OpOk.j0 k t104 a0_0 a0_1 a0_2)) else (spec_OpOk.j0 k (a0_1 == 0) a0_0 a0_1 a0_2))) else (some false))
theorem spec_OpOk.mono_l : ∀ k, (∀ y0 y1 y2 y3, LeO (spec_OpOk.j0 k y0 y1 y2 y3) (spec_OpOk.j0 (k + 1) y0 y1 y2 y3)) ∧ (∀ y0 y1 y2 y3, LeO (spec_OpOk.j1 k y0 y1 y2 y3) (spec_OpOk.j1 (k + 1) y0 y1 y2 y3))
  | 0 => ⟨fun _ _ _ _ r h => by simp [spec_OpOk.j0] at h, fun _ _ _ _ r h => by simp [spec_OpOk.j1] at h⟩
  | k + 1 => by
    obtain ⟨ih0, ih1⟩ := spec_OpOk.mono_l k
    refine ⟨?_, ?_⟩
    · intro y0 y1 y2 y3
      unfold spec_OpOk.j0
      repeat' first
      | (with_reducible exact ih0 _ _ _ _)
      | (with_reducible exact ih1 _ _ _ _)
      | (with_reducible exact LeO.refl _)
      | (with_reducible exact LeO.none _)
      | (with_reducible refine LeO.ite ?_ ?_)
      | (with_reducible refine LeO.bind ?_ (fun _ => ?_))
      | exact ih0 _ _ _ _
      | exact ih1 _ _ _ _
      | exact LeO.none _
      | refine LeO.ite ?_ ?_
      | refine LeO.bind ?_ (fun _ => ?_)
    · intro y0 y1 y2 y3
      unfold spec_OpOk.j1
      repeat' first
      | (with_reducible exact ih0 _ _ _ _)
      | (with_reducible exact ih1 _ _ _ _)
      | (with_reducible exact LeO.refl _)
      | (with_reducible exact LeO.none _)
      | (with_reducible refine LeO.ite ?_ ?_)
      | (with_reducible refine LeO.bind ?_ (fun _ => ?_))
      | exact ih0 _ _ _ _
      | exact ih1 _ _ _ _
      | exact LeO.none _
      | refine LeO.ite ?_ ?_
      | refine LeO.bind ?_ (fun _ => ?_)
theorem spec_OpOk.mono : ∀ a0 a1 a2 k, LeO (spec_OpOk.f k a0 a1 a2) (spec_OpOk.f (k + 1) a0 a1 a2) := by
  intro a0 a1 a2 k
  obtain ⟨ih0, ih1⟩ := spec_OpOk.mono_l k
  unfold spec_OpOk.f
  repeat' first
      | (with_reducible exact ih0 _ _ _ _)
      | (with_reducible exact ih1 _ _ _ _)
      | (with_reducible exact LeO.refl _)
      | (with_reducible exact LeO.none _)
      | (with_reducible refine LeO.ite ?_ ?_)
      | (with_reducible refine LeO.bind ?_ (fun _ => ?_))
      | exact ih0 _ _ _ _
      | exact ih1 _ _ _ _
      | exact LeO.none _
      | refine LeO.ite ?_ ?_
      | refine LeO.bind ?_ (fun _ => ?_)
set_option maxHeartbeats 8000000 in
set_option maxRecDepth 100000 in
theorem spec_OpOk.calls (k : Nat) (a0_0 : Int) (a0_1 : Int) (a0_2 : Int) (r : Bool) (w : World) (h : spec_OpOk.f k a0_0 a0_1 a0_2 = some r) :
    Calls Tryd.prog 31 #[.agg #[.int .i64 a0_0, .int .i64 a0_1, .int .i64 a0_2]] w fun e w' => e = .returned (.bool r) ∧ Below w.heap.size w w' := by
  have hu23 := Tryd.underlying23
  have HB := aM (Below.refl w.heap.size w)
  have H := h
  unfold spec_OpOk.f at H
  clear h
  replace H := bE H; obtain ⟨t102, A2, H⟩ := H
  go_enter Tryd.func31, Tryd.ntmps31
  by_cases c3 : t102 = true
  case neg =>
    replace c3 := Bool.eq_false_iff.mpr c3
    subst c3
    rw [if_neg nft] at H
    obtain rfl := sI H
    go_wp2_with (first | (refine boxE 1 #[.int .i64 a0_0, .int .i64 a0_1, .int .i64 a0_2] 23 ?_; intro gbz1 hg wz1 hbox hb; have BKz1 := aM (hbox); have GWz1 := aG hg HB; have GEz1 := aG hg HB; replace HB := aS HB hb; clear hb hbox hg; obtain ⟨hczz1, hczz2, hczz3, hfzz1, hfzz2, hfzz3⟩ := cZ3 BKz1.out) | (refine goesM 51 6 Tryd.func51 #[.int .i64 a0_0, .int .i64 1, .int .i64 10] ?_; refine (spec_l1In.calls _ _ _ _ _ A2.out).mono ?_; rintro e w' ⟨rfl, ⟨nd, rfl⟩⟩; refine ⟨_, rfl, ?_⟩))
    go_ret
    exact ⟨rE, (hX HB.out)⟩
  subst c3
  rw [if_pos rfl] at H
  replace H := bE H; obtain ⟨t103, A4, H⟩ := H
  have HC5 := aM H
  clear H
  go_upto_if 13 with (first | ((with_reducible refine gate_dst (N := 1) rfl ?_); refine boxE 1 #[.int .i64 a0_0, .int .i64 a0_1, .int .i64 a0_2] 23 ?_; intro gbz1 hg wz1 hbox hb; have BKz1 := aM (hbox); have GWz1 := aG hg HB; have GEz1 := aG hg HB; replace HB := aS HB hb; clear hb hbox hg; obtain ⟨hczz1, hczz2, hczz3, hfzz1, hfzz2, hfzz3⟩ := cZ3 BKz1.out) | ((with_reducible refine gate_callee (f := 51) rfl ?_); refine goesM 51 6 Tryd.func51 #[.int .i64 a0_0, .int .i64 1, .int .i64 10] ?_; refine (spec_l1In.calls _ _ _ _ _ A2.out).mono ?_; rintro e w' ⟨rfl, ⟨nd, rfl⟩⟩; refine ⟨_, rfl, ?_⟩) | ((with_reducible refine gate_callee (f := 30) rfl ?_); refine goesM 30 13 Tryd.func30 #[.int .i64 a0_0] ?_; refine (spec_l4Key.calls _ _ _ A4.out).mono ?_; rintro e w' ⟨rfl, ⟨nd, rfl⟩⟩; refine ⟨_, rfl, ?_⟩))
  (try simp only [Act.put, List.setIfInBounds_toArray, List.set_cons_zero, List.set_cons_succ])
  go_cut [3] (fun vz1 wc => ∃ (kq : Nat) (x3_4 : Bool), vz1 = .bool x3_4 ∧ Aside0 (spec_OpOk.j0 kq x3_4 a0_0 a0_1 a0_2 = some r) ∧ Aside0 (kq ≤ k) ∧ Aside0 (wc.heap[gbz1]? = some (.cells #[.int .i64 a0_0, .int .i64 a0_1, .int .i64 a0_2] 23 (0, 0))) ∧ Aside0 (Below w.heap.size w wc))
  case first =>
    have H := HC5.out
    clear HC5
    by_cases c8 : t103 = true
    case neg =>
      replace c8 := Bool.eq_false_iff.mpr c8
      subst c8
      rw [if_neg nft] at H
      have H' := aM H
      clear H
      go_wp2
      go_meet
      case rel => exact ⟨_, ((a0_1 == 0)), rS, H', ⟨by first | omega | exact Nat.le_refl _⟩, ⟨(bX BKz1.out)⟩, ⟨(hX HB.out)⟩⟩
    subst c8
    rw [if_pos rfl] at H
    replace H := bE H; obtain ⟨t104, A9, H⟩ := H
    have H' := aM H
    clear H
    obtain ⟨hczy1, hczy2, hczy3, hfzy1, hfzy2, hfzy3⟩ := cZ3 BKz1.out
    go_wp2_with (first | (refine goesM 56 16 Tryd.func56 #[.int .i64 a0_1] ?_; refine (spec_KeyOk.calls _ _ _ A9.out).mono ?_; rintro e w' ⟨rfl, ⟨nd, rfl⟩⟩; refine ⟨_, rfl, ?_⟩))
    go_meet
    case rel => exact ⟨_, (t104), rS, H', ⟨by first | omega | exact Nat.le_refl _⟩, ⟨(bX BKz1.out)⟩, ⟨(hX HB.out)⟩⟩
  case rest =>
    clear HC5
    try clear p2
    try clear c3
    try clear hczz1 hczz2 hczz3 hfzz1 hfzz2 hfzz3
    obtain ⟨kq, x3_4, rfl, HA, HJy1, BKz1, HB⟩ := hcut
    cases kq with
    | zero => exact absurd HA.out (by simp [spec_OpOk.j0])
    | succ kj4 =>
      have H := HA.out
      clear HA
      simp only [spec_OpOk.j0] at H
      have HC11 := aM H
      clear H
      obtain ⟨hczx1, hczx2, hczx3, hfzx1, hfzx2, hfzx3⟩ := cZ3 BKz1.out
      go_upto_if 19 with (fail)
      go_cut [3] (fun vz1 wc => ∃ (kq : Nat) (x3_10 : Bool), vz1 = .bool x3_10 ∧ Aside0 (spec_OpOk.j1 kq x3_10 a0_0 a0_1 a0_2 = some r) ∧ Aside0 (kq ≤ kj4) ∧ Aside0 (wc.heap[gbz1]? = some (.cells #[.int .i64 a0_0, .int .i64 a0_1, .int .i64 a0_2] 23 (0, 0))) ∧ Aside0 (Below w.heap.size w wc))
      case first =>
        have H := HC11.out
        clear HC11
        by_cases c13 : a0_0 = 6
        case neg =>
          rw [if_neg c13] at H
          obtain ⟨c13b0, c13b1⟩ := eqF c13
          (first | rw [c13b0] | (simp only [i64_w, i32_w]; rw [c13b0]) | skip)
          have H' := aM H
          clear H
          go_wp2
          go_meet
          case rel => exact ⟨_, (x3_4), rS, H', ⟨by have := HJy1.out; first | omega | exact Nat.le_refl _⟩, ⟨(bX BKz1.out)⟩, ⟨(hX HB.out)⟩⟩
        rw [if_pos c13] at H
        obtain ⟨c13b0, c13b1⟩ := eqT c13
        clear c13
        (first | rw [c13b0] | (simp only [i64_w, i32_w]; rw [c13b0]) | skip)
        replace H := bE H; obtain ⟨t105, A14, H⟩ := H
        have H' := aM H
        clear H
        obtain ⟨hczw1, hczw2, hczw3, hfzw1, hfzw2, hfzw3⟩ := cZ3 BKz1.out
        go_wp2_with (first | (refine goesM 51 22 Tryd.func51 #[.int .i64 a0_1, .int .i64 0, .int .i64 2] ?_; refine (spec_l1In.calls _ _ _ _ _ A14.out).mono ?_; rintro e w' ⟨rfl, ⟨nd, rfl⟩⟩; refine ⟨_, rfl, ?_⟩))
        go_meet
        case rel => exact ⟨_, (t105), rS, H', ⟨by have := HJy1.out; first | omega | exact Nat.le_refl _⟩, ⟨(bX BKz1.out)⟩, ⟨(hX HB.out)⟩⟩
      case rest =>
        clear HC11
        try clear p2
        try clear c3
        try clear hczx1 hczx2 hczx3 hfzx1 hfzx2 hfzx3
        try clear hczz1 hczz2 hczz3 hfzz1 hfzz2 hfzz3
        obtain ⟨kq, x3_10, rfl, HA, HJw1, BKz1, HB⟩ := hcut
        cases kq with
        | zero => exact absurd HA.out (by simp [spec_OpOk.j1])
        | succ kj10 =>
          have H := HA.out
          clear HA
          simp only [spec_OpOk.j1] at H
          replace H := bE H; obtain ⟨t106, A16, H⟩ := H
          by_cases c17 : t106 = true
          case neg =>
            replace c17 := Bool.eq_false_iff.mpr c17
            subst c17
            rw [if_neg nft] at H
            obtain ⟨hczv1, hczv2, hczv3, hfzv1, hfzv2, hfzv3⟩ := cZ3 BKz1.out
            go_wp2_with (first | (refine goesM 47 25 Tryd.func47 #[.int .i64 a0_0] ?_; refine (spec_l4Val.calls _ _ _ A16.out).mono ?_; rintro e w' ⟨rfl, ⟨nd, rfl⟩⟩; refine ⟨_, rfl, ?_⟩; refine Stop.out ?_))
            refine ⟨?_⟩
            by_cases c22 : x3_10 = true
            · subst c22
              rw [if_pos rfl] at H
              obtain rfl := sI H
              go_wp2
              go_ret
              exact ⟨rE, (hX HB.out)⟩
            replace c22 := Bool.eq_false_iff.mpr c22
            subst c22
            rw [if_neg nft] at H
            obtain rfl := sI H
            go_wp2
            go_ret
            exact ⟨rE, (hX HB.out)⟩
          subst c17
          rw [if_pos rfl] at H
          obtain ⟨hczv1, hczv2, hczv3, hfzv1, hfzv2, hfzv3⟩ := cZ3 BKz1.out
          go_wp2_with (first | (refine goesM 47 25 Tryd.func47 #[.int .i64 a0_0] ?_; refine (spec_l4Val.calls _ _ _ A16.out).mono ?_; rintro e w' ⟨rfl, ⟨nd, rfl⟩⟩; refine ⟨_, rfl, ?_⟩; refine Stop.out ?_))
          refine ⟨?_⟩
          by_cases c18 : x3_10 = true
          case neg =>
            replace c18 := Bool.eq_false_iff.mpr c18
            subst c18
            rw [if_neg nft] at H
            obtain rfl := sI H
            go_wp2
            go_ret
            exact ⟨rE, (hX HB.out)⟩
          subst c18
          rw [if_pos rfl] at H
          replace H := bE H; obtain ⟨t107, A19, H⟩ := H
          obtain rfl := sI H
          go_wp2_with (first | (go_at_call 57; (with_reducible refine (spec_ValOk.calls _ _ _ A19.out).mono ?_); rintro e w' ⟨rfl, ⟨nd, rfl⟩⟩))
          go_ret
          exact ⟨rE, (hX HB.out)⟩
def spec_Digits.l0 : Nat → Int → Bool → ByteArray → Option (ByteArray)
  | 0, _, _, _ => none
  | k + 1, x0, x3, x4 => if x0 = 0 then (if x3 = true then (if 1 + x4.size ≤ 9223372036854775807 then (some ((⟨#[45]⟩ : ByteArray) ++ x4)) else (none)) else (some x4)) else (if (Int.tmod x0 10) < 0 then ((some (([(wrap64 (48 + (wrap64 (-(Int.tmod x0 10))))) % 256] : List Int) : List Int)).bind fun y101 => (if (strOfNums y101).size + x4.size ≤ 9223372036854775807 then (spec_Digits.l0 k (wrap64 (Int.tdiv x0 10)) x3 ((strOfNums y101) ++ x4)) else (none))) else ((some (([(wrap64 (48 + (Int.tmod x0 10))) % 256] : List Int) : List Int)).bind fun y104 => (if (strOfNums y104).size + x4.size ≤ 9223372036854775807 then (spec_Digits.l0 k (wrap64 (Int.tdiv x0 10)) x3 ((strOfNums y104) ++ x4)) else (none))))
def spec_Digits.f (k : Nat) (a0 : Int) : Option (ByteArray) := if a0 = 0 then (some (⟨#[48]⟩ : ByteArray)) else (spec_Digits.l0 k a0 (decide (a0 < 0)) (⟨#[]⟩ : ByteArray))
theorem spec_Digits.mono_l : ∀ k, (∀ y0 y1 y2, LeO (spec_Digits.l0 k y0 y1 y2) (spec_Digits.l0 (k + 1) y0 y1 y2))
  | 0 => fun _ _ _ r h => by simp [spec_Digits.l0] at h
  | k + 1 => by
    have ih0 := spec_Digits.mono_l k
    · intro y0 y1 y2
      unfold spec_Digits.l0
      repeat' first
      | (with_reducible exact ih0 _ _ _)
      | (with_reducible exact LeO.refl _)
      | (with_reducible exact LeO.none _)
      | (with_reducible refine LeO.ite ?_ ?_)
      | (with_reducible refine LeO.bind ?_ (fun _ => ?_))
      | exact ih0 _ _ _
      | exact LeO.none _
      | refine LeO.ite ?_ ?_
      | refine LeO.bind ?_ (fun _ => ?_)
theorem spec_Digits.mono : ∀ a0 k, LeO (spec_Digits.f k a0) (spec_Digits.f (k + 1) a0) := by
  intro a0 k
  have ih0 := spec_Digits.mono_l k
  unfold spec_Digits.f
  repeat' first
      | (with_reducible exact ih0 _ _ _)
      | (with_reducible exact LeO.refl _)
      | (with_reducible exact LeO.none _)
      | (with_reducible refine LeO.ite ?_ ?_)
      | (with_reducible refine LeO.bind ?_ (fun _ => ?_))
      | exact ih0 _ _ _
      | exact LeO.none _
      | refine LeO.ite ?_ ?_
      | refine LeO.bind ?_ (fun _ => ?_)
set_option maxHeartbeats 8000000 in
set_option maxRecDepth 100000 in
theorem spec_Digits.calls (k : Nat) (a0 : Int) (r : ByteArray) (w : World) (h : spec_Digits.f k a0 = some r) :
    Calls Tryd.prog 46 #[.int .i64 a0] w fun e w' => e = .returned (.string r) ∧ Below w.heap.size w w' := by
  have HB := aM (Below.refl w.heap.size w)
  have H := h
  unfold spec_Digits.f at H
  clear h
  go_enter Tryd.func46, Tryd.ntmps46
  by_cases c2 : a0 = 0
  · rw [if_pos c2] at H
    obtain ⟨c2b0, c2b1⟩ := eqT c2
    clear c2
    obtain rfl := sI H
    go_wp2
    go_ret
    exact ⟨rE, (hX HB.out)⟩
  rw [if_neg c2] at H
  obtain ⟨c2b0, c2b1⟩ := eqF c2
  have H' := aM H
  clear H
  go_wp2
  go_loopg [0, 4] k (fun kq v0 v4 w' => ∃ (x0_1 : Int) (x4_1 : ByteArray), v0 = .int .i64 x0_1 ∧ v4 = .string x4_1 ∧ Aside0 (spec_Digits.l0 kq x0_1 (decide (a0 < 0)) x4_1 = some r) ∧ Aside0 (kq ≤ k) ∧ Aside0 (Below w.heap.size w w'))
  case atStart => exact ⟨(a0), ((⟨#[]⟩ : ByteArray)), rS, rS, H', ⟨Nat.le_refl _⟩, ⟨(hX HB.out)⟩⟩
  case round =>
    clear H'
    try clear c2
    try clear c2b0
    try clear c2b1
    try clear p2
    obtain ⟨x0_1, x4_1, rfl, rfl, HA, HKy1, HB⟩ := hrel
    cases gk with
    | zero => exact absurd HA.out (by simp [spec_Digits.l0])
    | succ k1 =>
      have H := HA.out
      clear HA
      simp only [spec_Digits.l0] at H
      by_cases c3 : x0_1 = 0
      · rw [if_pos c3] at H
        obtain ⟨c3b0, c3b1⟩ := eqT c3
        clear c3
        by_cases c4 : (decide (a0 < 0)) = true
        case neg =>
          rw [if_neg c4] at H
          have c4b0 : (decide (a0 < 0)) = false := by simpa using c4
          (try (have c4b1 : ¬ (a0 < 0) := by simpa using c4))
          clear c4
          obtain rfl := sI H
          go_wp2
          go_ret
          exact ⟨rE, (hX HB.out)⟩
        rw [if_pos c4] at H
        have c4b0 : (decide (a0 < 0)) = true := c4
        (try (have c4b1 : (a0 < 0) := by simpa using c4))
        clear c4
        replace H := ifP H; obtain ⟨c5, H⟩ := H
        have c5b0 := eq_true c5
        have c5b1 := decide_eq_true c5
        try have c5b2 : (9223372036854775807 < 1 + x4_1.size) = False := eq_false (Nat.not_lt.2 c5)
        obtain rfl := sI H
        go_wp2
        go_ret
        exact ⟨rE, (hX HB.out)⟩
      rw [if_neg c3] at H
      obtain ⟨c3b0, c3b1⟩ := eqF c3
      by_cases c6 : (Int.tmod x0_1 10) < 0
      case neg =>
        rw [if_neg c6] at H
        have c6b0 := decide_eq_false c6
        clear c6
        obtain ⟨y104, hy104⟩ : ∃ y_ : List Int, y_ = (([(wrap64 (48 + (Int.tmod x0_1 10))) % 256] : List Int)) := ⟨_, rfl⟩
        replace H : (if (strOfNums y104).size + x4_1.size ≤ 9223372036854775807 then (spec_Digits.l0 k1 (wrap64 (Int.tdiv x0_1 10)) (decide (a0 < 0)) ((strOfNums y104) ++ x4_1)) else (none)) = some r := yH H hy104
        have Ny104 := aM hy104
        clear hy104
        replace H := ifP H; obtain ⟨c11, H⟩ := H
        have c11b0 := eq_true c11
        have c11b1 := decide_eq_true c11
        try have c11b2 : (9223372036854775807 < (strOfNums y104).size + x4_1.size) = False := eq_false (Nat.not_lt.2 c11)
        have H' := aM H
        clear H
        go_wp2_with (first | ((with_reducible refine gate_dst (N := 21) rfl ?_); refine Kd.R_lit (Kd.int .u8) _ 5 ?hg (N := 21) ?hd (xs := ([(wrap64 (48 + (Int.tmod x0_1 10))) % 256] : List Int)) (inner := [.int .u8 ((wrap64 (48 + (Int.tmod x0_1 10))) % 256)]) (ok := fun _ => True) (okp := fun _ => True) ?hr ?hp (fun _ hk => hk) trivial (Below.refl _ _) (Nat.le_refl _) (by simp) ?_; (case hd => rfl); (case hg => rfl); (case hr => first | (go_simp; done) | (go_simp; rfl)); (case hp => exact (Reps.one (show Kd.M (Kd.int .u8) _ _ _ ((wrap64 (48 + (Int.tmod x0_1 10))) % 256) [.int .u8 ((wrap64 (48 + (Int.tmod x0_1 10))) % 256)] from rfl) (Reps.none _ _))); intro vx1 wx1 hox1 hb hg_ hnew_; clear hg_ hnew_; (first | rw [← Ny104.out] at hox1 | (simp only [Int.reduceToNat] at hox1; rw [← Ny104.out] at hox1)); have HOx1 := aM (Kd.R_lower hox1 (below_size (hX HB.out))); replace HB := aS HB hb; clear hb hox1; have hcvx1 := own_string (P := Tryd.prog) Tryd.underlying33 Tryd.underlying5 Tryd.underlying9 (Kd.own_of_R HOx1.out)))
        go_roundg k1
        case measure => have := HKy1.out; omega
        case rel => exact ⟨(wrap64 (Int.tdiv x0_1 10)), ((strOfNums y104) ++ x4_1), rS, rS, H', ⟨by have := HKy1.out; omega⟩, ⟨(hX HB.out)⟩⟩
      rw [if_pos c6] at H
      have c6b0 := decide_eq_true c6
      clear c6
      obtain ⟨y101, hy101⟩ : ∃ y_ : List Int, y_ = (([(wrap64 (48 + (wrap64 (-(Int.tmod x0_1 10))))) % 256] : List Int)) := ⟨_, rfl⟩
      replace H : (if (strOfNums y101).size + x4_1.size ≤ 9223372036854775807 then (spec_Digits.l0 k1 (wrap64 (Int.tdiv x0_1 10)) (decide (a0 < 0)) ((strOfNums y101) ++ x4_1)) else (none)) = some r := yH H hy101
      have Ny101 := aM hy101
      clear hy101
      replace H := ifP H; obtain ⟨c7, H⟩ := H
      have c7b0 := eq_true c7
      have c7b1 := decide_eq_true c7
      try have c7b2 : (9223372036854775807 < (strOfNums y101).size + x4_1.size) = False := eq_false (Nat.not_lt.2 c7)
      have H' := aM H
      clear H
      go_wp2_with (first | ((with_reducible refine gate_dst (N := 21) rfl ?_); refine Kd.R_lit (Kd.int .u8) _ 5 ?hg (N := 21) ?hd (xs := ([(wrap64 (48 + (wrap64 (-(Int.tmod x0_1 10))))) % 256] : List Int)) (inner := [.int .u8 ((wrap64 (48 + (wrap64 (-(Int.tmod x0_1 10))))) % 256)]) (ok := fun _ => True) (okp := fun _ => True) ?hr ?hp (fun _ hk => hk) trivial (Below.refl _ _) (Nat.le_refl _) (by simp) ?_; (case hd => rfl); (case hg => rfl); (case hr => first | (go_simp; done) | (go_simp; rfl)); (case hp => exact (Reps.one (show Kd.M (Kd.int .u8) _ _ _ ((wrap64 (48 + (wrap64 (-(Int.tmod x0_1 10))))) % 256) [.int .u8 ((wrap64 (48 + (wrap64 (-(Int.tmod x0_1 10))))) % 256)] from rfl) (Reps.none _ _))); intro vx1 wx1 hox1 hb hg_ hnew_; clear hg_ hnew_; (first | rw [← Ny101.out] at hox1 | (simp only [Int.reduceToNat] at hox1; rw [← Ny101.out] at hox1)); have HOx1 := aM (Kd.R_lower hox1 (below_size (hX HB.out))); replace HB := aS HB hb; clear hb hox1; have hcvx1 := own_string (P := Tryd.prog) Tryd.underlying33 Tryd.underlying5 Tryd.underlying9 (Kd.own_of_R HOx1.out)))
      go_roundg k1
      case measure => have := HKy1.out; omega
      case rel => exact ⟨(wrap64 (Int.tdiv x0_1 10)), ((strOfNums y101) ++ x4_1), rS, rS, H', ⟨by have := HKy1.out; omega⟩, ⟨(hX HB.out)⟩⟩
mutual
def spec_OpText.j0 : Nat → ByteArray → Bool → Int → Int → Int → Option (ByteArray)
  | 0, _, _, _, _, _ => none
  | k + 1, x3, x19, x102000, x102001, x102002 => if x19 = true then (if x3.size + 1 ≤ 9223372036854775807 then ((spec_Digits.f k x102001).bind fun t108 => (if (x3 ++ (⟨#[32]⟩ : ByteArray)).size + t108.size ≤ 9223372036854775807 then (spec_OpText.j1 k ((x3 ++ (⟨#[32]⟩ : ByteArray)) ++ t108) x102000 x102001 x102002) else (none))) else (none)) else (spec_OpText.j1 k x3 x102000 x102001 x102002)
def spec_OpText.j1 : Nat → ByteArray → Int → Int → Int → Option (ByteArray)
  | 0, _, _, _, _ => none
  | k + 1, x3, x102000, x102001, x102002 => (spec_l4Val.f x102000).bind fun t109 => (if t109 = true then (if x3.size + 1 ≤ 9223372036854775807 then ((spec_Digits.f k x102002).bind fun t110 => (if (x3 ++ (⟨#[32]⟩ : ByteArray)).size + t110.size ≤ 9223372036854775807 then (some ((x3 ++ (⟨#[32]⟩ : ByteArray)) ++ t110)) else (none))) else (none)) else (some x3))
end
def spec_OpText.f (k : Nat) (a0_0 : Int) (a0_1 : Int) (a0_2 : Int) : Option (ByteArray) := (spec_OpOk.f k a0_0 a0_1 a0_2).bind fun t102 => (if t102 = true then ((spec_l14Names.f).bind fun t103 => (if 0 ≤ a0_0 then (if a0_0 < (t103.length : Int) then ((spec_l4Key.f a0_0).bind fun t107 => (if t107 = true then (spec_OpText.j0 k (rdOf ByteArray.empty t103 a0_0) true a0_0 a0_1 a0_2) else (spec_OpText.j0 k (rdOf ByteArray.empty t103 a0_0) (a0_0 == 6) a0_0 a0_1 a0_2))) else (none)) else (none))) else (some (⟨#[110, 111, 110, 101]⟩ : ByteArray)))
theorem spec_OpText.mono_l : ∀ k, (∀ y0 y1 y2 y3 y4, LeO (spec_OpText.j0 k y0 y1 y2 y3 y4) (spec_OpText.j0 (k + 1) y0 y1 y2 y3 y4)) ∧ (∀ y0 y1 y2 y3, LeO (spec_OpText.j1 k y0 y1 y2 y3) (spec_OpText.j1 (k + 1) y0 y1 y2 y3))
  | 0 => ⟨fun _ _ _ _ _ r h => by simp [spec_OpText.j0] at h, fun _ _ _ _ r h => by simp [spec_OpText.j1] at h⟩
  | k + 1 => by
    obtain ⟨ih0, ih1⟩ := spec_OpText.mono_l k
    refine ⟨?_, ?_⟩
    · intro y0 y1 y2 y3 y4
      unfold spec_OpText.j0
      repeat' first
      | (with_reducible exact ih0 _ _ _ _ _)
      | (with_reducible exact ih1 _ _ _ _)
      | (with_reducible exact spec_Digits.mono _ _)
      | (with_reducible exact spec_OpOk.mono _ _ _ _)
      | (with_reducible exact LeO.refl _)
      | (with_reducible exact LeO.none _)
      | (with_reducible refine LeO.ite ?_ ?_)
      | (with_reducible refine LeO.bind ?_ (fun _ => ?_))
      | exact ih0 _ _ _ _ _
      | exact ih1 _ _ _ _
      | exact spec_Digits.mono _ _
      | exact spec_OpOk.mono _ _ _ _
      | exact LeO.none _
      | refine LeO.ite ?_ ?_
      | refine LeO.bind ?_ (fun _ => ?_)
    · intro y0 y1 y2 y3
      unfold spec_OpText.j1
      repeat' first
      | (with_reducible exact ih0 _ _ _ _ _)
      | (with_reducible exact ih1 _ _ _ _)
      | (with_reducible exact spec_Digits.mono _ _)
      | (with_reducible exact spec_OpOk.mono _ _ _ _)
      | (with_reducible exact LeO.refl _)
      | (with_reducible exact LeO.none _)
      | (with_reducible refine LeO.ite ?_ ?_)
      | (with_reducible refine LeO.bind ?_ (fun _ => ?_))
      | exact ih0 _ _ _ _ _
      | exact ih1 _ _ _ _
      | exact spec_Digits.mono _ _
      | exact spec_OpOk.mono _ _ _ _
      | exact LeO.none _
      | refine LeO.ite ?_ ?_
      | refine LeO.bind ?_ (fun _ => ?_)
theorem spec_OpText.mono : ∀ a0 a1 a2 k, LeO (spec_OpText.f k a0 a1 a2) (spec_OpText.f (k + 1) a0 a1 a2) := by
  intro a0 a1 a2 k
  obtain ⟨ih0, ih1⟩ := spec_OpText.mono_l k
  unfold spec_OpText.f
  repeat' first
      | (with_reducible exact ih0 _ _ _ _ _)
      | (with_reducible exact ih1 _ _ _ _)
      | (with_reducible exact spec_Digits.mono _ _)
      | (with_reducible exact spec_OpOk.mono _ _ _ _)
      | (with_reducible exact LeO.refl _)
      | (with_reducible exact LeO.none _)
      | (with_reducible refine LeO.ite ?_ ?_)
      | (with_reducible refine LeO.bind ?_ (fun _ => ?_))
      | exact ih0 _ _ _ _ _
      | exact ih1 _ _ _ _
      | exact spec_Digits.mono _ _
      | exact spec_OpOk.mono _ _ _ _
      | exact LeO.none _
      | refine LeO.ite ?_ ?_
      | refine LeO.bind ?_ (fun _ => ?_)
set_option maxHeartbeats 8000000 in
set_option maxRecDepth 100000 in
theorem spec_OpText.calls (k : Nat) (a0_0 : Int) (a0_1 : Int) (a0_2 : Int) (r : ByteArray) (w : World) (h : spec_OpText.f k a0_0 a0_1 a0_2 = some r) :
    Calls Tryd.prog 21 #[.agg #[.int .i64 a0_0, .int .i64 a0_1, .int .i64 a0_2]] w fun e w' => e = .returned (.string r) ∧ Below w.heap.size w w' := by
  have hu23 := Tryd.underlying23
  have HB := aM (Below.refl w.heap.size w)
  have H := h
  unfold spec_OpText.f at H
  clear h
  replace H := bE H; obtain ⟨t102, A2, H⟩ := H
  go_enter Tryd.func21, Tryd.ntmps21
  go_wp2_with (first | (refine boxE 1 #[.int .i64 a0_0, .int .i64 a0_1, .int .i64 a0_2] 23 ?_; intro gbz1 hg wz1 hbox hb; have BKz1 := aM (hbox); have GWz1 := aG hg HB; have GEz1 := aG hg HB; replace HB := aS HB hb; clear hb hbox hg; obtain ⟨hczz1, hczz2, hczz3, hfzz1, hfzz2, hfzz3⟩ := cZ3 BKz1.out; refine Stop.out ?_))
  refine ⟨?_⟩
  by_cases c3 : t102 = true
  case neg =>
    replace c3 := Bool.eq_false_iff.mpr c3
    subst c3
    rw [if_neg nft] at H
    obtain rfl := sI H
    go_wp2_with (first | (refine goesM 31 5 Tryd.func31 #[.agg #[.int .i64 a0_0, .int .i64 a0_1, .int .i64 a0_2]] ?_; refine (spec_OpOk.calls _ _ _ _ _ _ A2.out).mono ?_; rintro e wz2 ⟨rfl, hb⟩; refine ⟨_, rfl, ?_⟩; replace BKz1 := aB BKz1 hb; replace HB := aS HB hb; clear hb))
    go_ret
    exact ⟨rE, (hX HB.out)⟩
  subst c3
  rw [if_pos rfl] at H
  replace H := bE H; obtain ⟨t103, A4, H⟩ := H
  replace H := ifP H; obtain ⟨c5, H⟩ := H
  have c5b0 := decide_eq_true c5
  clear c5
  replace H := ifP H; obtain ⟨c6, H⟩ := H
  have c6b0 := decide_eq_true c6
  clear c6
  have HC7 := aM H
  clear H
  try go_wp2_with (first | (refine goesM 31 5 Tryd.func31 #[.agg #[.int .i64 a0_0, .int .i64 a0_1, .int .i64 a0_2]] ?_; refine (spec_OpOk.calls _ _ _ _ _ _ A2.out).mono ?_; rintro e wz2 ⟨rfl, hb⟩; refine ⟨_, rfl, ?_⟩; replace BKz1 := aB BKz1 hb; replace HB := aS HB hb; clear hb))
  replace BKz1 := aM (blk_drew BKz1.out)
  replace HB := aM (below_drew1 HB.out)
  refine start_ (n := 6) (S := fun w' => w'.cell? ⟨gbz1, 0, none⟩ = some (.int .i64 a0_0) ∧ w'.cell? ⟨gbz1, 1, none⟩ = some (.int .i64 a0_1) ∧ w'.cell? ⟨gbz1, 2, none⟩ = some (.int .i64 a0_2)) (ds := []) (bm 6 0) (by kernel_rfl) rfl (by kernel_rfl) ⟨cK BKz1.out 0, cK BKz1.out 1, cK BKz1.out 2⟩ (fun hHeld => ?_)
  generalize wz2.drew = wz3 at BKz1 HB hHeld ⊢
  refine pK 1 8 (bm 6 2) ?_
  refine tK 2 9 (bm 6 6) hHeld ?_
  refine oK 0 (some 7) (bm 6 7) (fun K hK => ?_)
  refine goesN Tryd.func28 #[] ?_
  with_reducible refine (spec_l14Names.calls _ _ A4.out).mono ?_
  rintro e wz4 ⟨vz1, rfl, hoz1, hb⟩
  refine ⟨_, rfl, ?_⟩
  have HOz1 := aM (Kd.R_lower hoz1 (below_size (hX HB.out)))
  replace BKz1 := aB BKz1 hb
  replace HB := aS HB hb
  (try clear hb)
  (try clear hb2)
  (try clear hk)
  (try clear hi)
  (try clear hoz1)
  obtain ⟨Aoz1, coz1, eoz1⟩ := Kd.R_slice HOz1.out
  (first | subst eoz1 | (injection eoz1 with f1_ f2_ f3_; have fz1 := f1_.symm; have fz2 := f3_.symm; clear f1_ f2_ f3_; subst fz1; subst fz2))
  have pz1 : 0 ≤ (a0_0 : Int) := odA
  have qz1 : a0_0 < (t103.length : Int) := odA
  obtain ⟨adz1, ez1, hxz1⟩ := Kd.at_string (Kd.R_reads' HOz1.out).2.2 a0_0 pz1 qz1
  cases ez1
  replace pz1 := eq_true pz1
  replace qz1 := eq_true qz1
  refine hK.out _ _ ⟨cK BKz1.out 0, cK BKz1.out 1, cK BKz1.out 2⟩ (fun hHeld => ?_)
  clear hK K
  refine nZ 7 ?_
  refine pK 3 10 (bm 6 15) ?_
  refine Go.Proofs.YtafcfhgdblefgaaDoorZ.now_ (i := 4) (N := some 11) (v := ?_) (a' := ?_) #[true, true, true, true, true, false] rfl rfl (by kernel_rfl) (by decide) rfl ?_ hHeld ?_ ?_
  rotate_left
  · go_simp
    with_reducible rfl
  rotate_left
  · simp only [Act.put, List.setIfInBounds_toArray, List.set_cons_zero, List.set_cons_succ, i64_w, i32_w]
    rfl
  refine pK 5 3 (bm 6 63) ?_
  refine done_ (by kernel_rfl) ?_
  go_upto_region 4 with (fail)
  go_cut [19] (fun vz2 wc => ∃ (kq : Nat) (x19_6 : Bool), vz2 = .bool x19_6 ∧ Aside0 (spec_OpText.j0 kq (rdOf ByteArray.empty t103 a0_0) x19_6 a0_0 a0_1 a0_2 = some r) ∧ Aside0 (kq ≤ k) ∧ Aside0 (wc.heap[gbz1]? = some (.cells #[.int .i64 a0_0, .int .i64 a0_1, .int .i64 a0_2] 23 (0, 0))) ∧ Aside0 (Below w.heap.size w wc))
  case first =>
    have H := HC7.out
    clear HC7
    replace H := bE H; obtain ⟨t107, A14, H⟩ := H
    by_cases c15 : t107 = true
    · subst c15
      rw [if_pos rfl] at H
      have H' := aM H
      clear H
      obtain ⟨hczy1, hczy2, hczy3, hfzy1, hfzy2, hfzy3⟩ := cZ3 BKz1.out
      go_wp2_with (first | (refine goesM 30 14 Tryd.func30 #[.int .i64 a0_0] ?_; refine (spec_l4Key.calls _ _ _ A14.out).mono ?_; rintro e w' ⟨rfl, ⟨nd, rfl⟩⟩; refine ⟨_, rfl, ?_⟩))
      go_meet
      case rel => exact ⟨_, (true), rS, H', ⟨by first | omega | exact Nat.le_refl _⟩, ⟨(bX BKz1.out)⟩, ⟨(hX HB.out)⟩⟩
    replace c15 := Bool.eq_false_iff.mpr c15
    subst c15
    rw [if_neg nft] at H
    have H' := aM H
    clear H
    obtain ⟨hczy1, hczy2, hczy3, hfzy1, hfzy2, hfzy3⟩ := cZ3 BKz1.out
    go_wp2_with (first | (refine goesM 30 14 Tryd.func30 #[.int .i64 a0_0] ?_; refine (spec_l4Key.calls _ _ _ A14.out).mono ?_; rintro e w' ⟨rfl, ⟨nd, rfl⟩⟩; refine ⟨_, rfl, ?_⟩))
    go_meet
    case rel => exact ⟨_, ((a0_0 == 6)), rS, H', ⟨by first | omega | exact Nat.le_refl _⟩, ⟨(bX BKz1.out)⟩, ⟨(hX HB.out)⟩⟩
  case rest =>
    clear HC7
    try clear p1
    try clear q1
    try clear hx1
    try clear p2
    try clear c3
    try clear c5
    try clear c5b0
    try clear c6
    try clear c6b0
    try clear p10
    try clear q10
    try clear hx10
    try clear hczz1 hczz2 hczz3 hfzz1 hfzz2 hfzz3
    try clear hxz1
    try clear pz1
    try clear qz1
    obtain ⟨kq, x19_6, rfl, HA, HJy1, BKz1, HB⟩ := hcut
    cases kq with
    | zero => exact absurd HA.out (by simp [spec_OpText.j0])
    | succ kj6 =>
      have H := HA.out
      clear HA
      simp only [spec_OpText.j0] at H
      have HC18 := aM H
      clear H
      go_upto_if 19 with (fail)
      go_cut [3] (fun vx1 wc => ∃ (kq : Nat) (x3_17 : ByteArray), vx1 = .string x3_17 ∧ Aside0 (spec_OpText.j1 kq x3_17 a0_0 a0_1 a0_2 = some r) ∧ Aside0 (kq ≤ kj6) ∧ Aside0 (wc.heap[gbz1]? = some (.cells #[.int .i64 a0_0, .int .i64 a0_1, .int .i64 a0_2] 23 (0, 0))) ∧ Aside0 (Below w.heap.size w wc))
      case first =>
        have H := HC18.out
        clear HC18
        by_cases c19 : x19_6 = true
        case neg =>
          replace c19 := Bool.eq_false_iff.mpr c19
          subst c19
          rw [if_neg nft] at H
          have H' := aM H
          clear H
          go_wp2
          go_meet
          case rel => exact ⟨_, ((rdOf ByteArray.empty t103 a0_0)), rS, H', ⟨by have := HJy1.out; first | omega | exact Nat.le_refl _⟩, ⟨(bX BKz1.out)⟩, ⟨(hX HB.out)⟩⟩
        subst c19
        rw [if_pos rfl] at H
        replace H := ifP H; obtain ⟨c20, H⟩ := H
        have c20b0 := eq_true c20
        have c20b1 := decide_eq_true c20
        try have c20b2 : (9223372036854775807 < (rdOf ByteArray.empty t103 a0_0).size + 1) = False := eq_false (Nat.not_lt.2 c20)
        replace H := bE H; obtain ⟨t108, A21, H⟩ := H
        replace H := ifP H; obtain ⟨c22, H⟩ := H
        have c22b0 := eq_true c22
        have c22b1 := decide_eq_true c22
        try have c22b2 : (9223372036854775807 < ((rdOf ByteArray.empty t103 a0_0) ++ (⟨#[32]⟩ : ByteArray)).size + t108.size) = False := eq_false (Nat.not_lt.2 c22)
        (try (have c22b3 : (rdOf ByteArray.empty t103 a0_0).size + 1 + t108.size ≤ 9223372036854775807 := (by have h_ := c22; simp only [ByteArray.size_append, strOfNums_size] at h_; exact h_); have c22b4 := eq_true c22b3; (try have c22b5 := decide_eq_true c22b3); (try have c22b6 := eq_false (Nat.not_lt.2 c22b3))))
        have H' := aM H
        clear H
        obtain ⟨hczw1, hczw2, hczw3, hfzw1, hfzw2, hfzw3⟩ := cZ3 BKz1.out
        go_wp2_with (first | (refine goesM 46 24 Tryd.func46 #[.int .i64 a0_1] ?_; refine (spec_Digits.calls _ _ _ _ A21.out).mono ?_; rintro e ww1 ⟨rfl, hb⟩; refine ⟨_, rfl, ?_⟩; replace BKz1 := aB BKz1 hb; replace HB := aS HB hb; clear hb))
        go_meet
        case rel => exact ⟨_, (((rdOf ByteArray.empty t103 a0_0) ++ (⟨#[32]⟩ : ByteArray)) ++ t108), rS, H', ⟨by have := HJy1.out; first | omega | exact Nat.le_refl _⟩, ⟨(bX BKz1.out)⟩, ⟨(hX HB.out)⟩⟩
      case rest =>
        clear HC18
        try clear p1
        try clear q1
        try clear hx1
        try clear p2
        try clear c3
        try clear c5
        try clear c5b0
        try clear c6
        try clear c6b0
        try clear p10
        try clear q10
        try clear hx10
        try clear hczz1 hczz2 hczz3 hfzz1 hfzz2 hfzz3
        try clear hxz1
        try clear pz1
        try clear qz1
        obtain ⟨kq, x3_17, rfl, HA, HJw1, BKz1, HB⟩ := hcut
        cases kq with
        | zero => exact absurd HA.out (by simp [spec_OpText.j1])
        | succ kj17 =>
          have H := HA.out
          clear HA
          simp only [spec_OpText.j1] at H
          replace H := bE H; obtain ⟨t109, A25, H⟩ := H
          by_cases c26 : t109 = true
          case neg =>
            replace c26 := Bool.eq_false_iff.mpr c26
            subst c26
            rw [if_neg nft] at H
            obtain rfl := sI H
            obtain ⟨hczv1, hczv2, hczv3, hfzv1, hfzv2, hfzv3⟩ := cZ3 BKz1.out
            go_wp2_with (first | (refine goesM 47 28 Tryd.func47 #[.int .i64 a0_0] ?_; refine (spec_l4Val.calls _ _ _ A25.out).mono ?_; rintro e w' ⟨rfl, ⟨nd, rfl⟩⟩; refine ⟨_, rfl, ?_⟩))
            go_ret
            exact ⟨rE, (hX HB.out)⟩
          subst c26
          rw [if_pos rfl] at H
          replace H := ifP H; obtain ⟨c27, H⟩ := H
          have c27b0 := eq_true c27
          have c27b1 := decide_eq_true c27
          try have c27b2 : (9223372036854775807 < x3_17.size + 1) = False := eq_false (Nat.not_lt.2 c27)
          replace H := bE H; obtain ⟨t110, A28, H⟩ := H
          replace H := ifP H; obtain ⟨c29, H⟩ := H
          have c29b0 := eq_true c29
          have c29b1 := decide_eq_true c29
          try have c29b2 : (9223372036854775807 < (x3_17 ++ (⟨#[32]⟩ : ByteArray)).size + t110.size) = False := eq_false (Nat.not_lt.2 c29)
          (try (have c29b3 : x3_17.size + 1 + t110.size ≤ 9223372036854775807 := (by have h_ := c29; simp only [ByteArray.size_append, strOfNums_size] at h_; exact h_); have c29b4 := eq_true c29b3; (try have c29b5 := decide_eq_true c29b3); (try have c29b6 := eq_false (Nat.not_lt.2 c29b3))))
          obtain rfl := sI H
          obtain ⟨hczv1, hczv2, hczv3, hfzv1, hfzv2, hfzv3⟩ := cZ3 BKz1.out
          go_wp2_with (first | (refine goesM 47 28 Tryd.func47 #[.int .i64 a0_0] ?_; refine (spec_l4Val.calls _ _ _ A25.out).mono ?_; rintro e w' ⟨rfl, ⟨nd, rfl⟩⟩; refine ⟨_, rfl, ?_⟩) | (refine goesM 46 33 Tryd.func46 #[.int .i64 a0_2] ?_; refine (spec_Digits.calls _ _ _ _ A28.out).mono ?_; rintro e wv1 ⟨rfl, hb⟩; refine ⟨_, rfl, ?_⟩; replace BKz1 := aB BKz1 hb; replace HB := aS HB hb; clear hb))
          go_ret
          exact ⟨rE, (hX HB.out)⟩
def spec_l1Once.f (s0_0 : List Int) (s0_1 : Int) (s0_2 : Int) (a1 : Int) : Option (Bool × Int × Int) := (spec_l1Below.f s0_0 s0_1 s0_2 a1).bind fun bt101 => (some ((bt101.1 == 0), bt101.2.1, bt101.2.2))
set_option maxHeartbeats 8000000 in
set_option maxRecDepth 100000 in
theorem spec_l1Once.calls (g : Nat) (s0_0 : List Int) (s0_1 : Int) (s0_2 : Int) (a1 : Int) (r1 : Bool) (r2 : Int) (r3 : Int) (w0 w : World) (hI : IsS72 w0 w g s0_0 s0_1 s0_2) (hB : Below w0.heap.size w0 w) (h : spec_l1Once.f s0_0 s0_1 s0_2 a1 = some (r1, r2, r3)) :
    Calls Tryd.prog 38 #[.pointer (some ⟨g, 0, none⟩), .int .i64 a1] w fun e w' => e = .returned (.bool r1) ∧ IsS72 w0 w' g s0_0 r2 r3 ∧ Below w0.heap.size w0 w' ∧ KeepBut w w' g none := by
  have HI0 := aM hI
  have HK := aM (KeepBut.refl w g none)
  have HL := aM hB.size
  clear hI
  have HW0 := aM hB.size
  have HB := aM hB
  clear hB
  have H := h
  unfold spec_l1Once.f at H
  clear h
  replace H := bE H; obtain ⟨⟨t101, t102, t103⟩, A3, H⟩ := H
  try dsimp only at H
  simp only [Option.some.injEq, Prod.mk.injEq] at H
  obtain ⟨rfl, rfl, rfl⟩ := H
  go_enter Tryd.func38, Tryd.ntmps38
  go_wp2_with (first | (refine goesM 42 7 Tryd.func42 #[.pointer (some ⟨g, 0, none⟩), .int .i64 a1] ?_; refine (spec_l1Below.calls g s0_0 s0_1 s0_2 a1 t101 t102 t103 w0 _ (by repeat (first | (with_reducible first | exact HI0.out | apply IsS72.alloc | apply IsS72.drewN | apply IsS72.drew | apply IsS72.set_1 | apply IsS72.set_2) | exact HI0.out)) (by repeat (first | (with_reducible first | exact HB.out | apply below_alloc | apply pw_below_drewN | apply below_drew1 | refine below_set ?_ (IsS72.ge HI0.out)) | exact HB.out)) A3.out).mono ?_; rintro e wz1 ⟨rfl, hi, hb, hk⟩; refine ⟨_, rfl, ?_⟩; replace HK := aM (KeepBut.trans (kX HK.out) hk (.inl rfl)); replace HB := aM (hb); replace HI0 := aM (hi); clear hb hk hi))
  go_ret
  exact ⟨rE, (i72 HI0.out), (hY HB.out (IsS72.ge HI0.out)), (kX HK.out)⟩
def spec_l1Pick.f (s0_0 : List Int) (s0_1 : Int) (s0_2 : Int) (l1 : List ByteArray) : Option (ByteArray × Int × Int) := (spec_l1Below.f s0_0 s0_1 s0_2 (l1.length : Int)).bind fun bt101 => (if 0 ≤ bt101.1 then (if bt101.1 < (l1.length : Int) then (some (rdOf ByteArray.empty l1 bt101.1, bt101.2.1, bt101.2.2)) else (none)) else (none))
set_option maxHeartbeats 8000000 in
set_option maxRecDepth 100000 in
theorem spec_l1Pick.calls (g : Nat) (s0_0 : List Int) (s0_1 : Int) (s0_2 : Int) (A1 : Option Addr) (c1 : Nat) (l1 : List ByteArray) (r1 : ByteArray) (r2 : Int) (r3 : Int) (w0 w : World) (hI : IsS72 w0 w g s0_0 s0_1 s0_2) (hB : Below w0.heap.size w0 w) (hr1 : Kd.C Kd.string w A1 l1.length l1) (hc1 : l1.length ≤ c1) (hf1 : ∀ ad, A1 = some ad → 0 < l1.length → ad.block ≠ g) (h : spec_l1Pick.f s0_0 s0_1 s0_2 l1 = some (r1, r2, r3)) :
    Calls Tryd.prog 39 #[.pointer (some ⟨g, 0, none⟩), .slice A1 l1.length c1] w fun e w' => e = .returned (.string r1) ∧ IsS72 w0 w' g s0_0 r2 r3 ∧ Below w0.heap.size w0 w' ∧ KeepBut w w' g none := by
  have HR1 := aM hr1
  have HC1 := aM hc1
  clear hr1 hc1
  have HI0 := aM hI
  have HK := aM (KeepBut.refl w g none)
  have HL := aM hB.size
  clear hI
  have HW0 := aM hB.size
  have HB := aM hB
  clear hB
  have H := h
  unfold spec_l1Pick.f at H
  clear h
  replace H := bE H; obtain ⟨⟨t101, t102, t103⟩, A3, H⟩ := H
  try dsimp only at H
  replace H := ifP H; obtain ⟨c4, H⟩ := H
  have c4b0 := decide_eq_true c4
  clear c4
  replace H := ifP H; obtain ⟨c5, H⟩ := H
  have c5b0 := decide_eq_true c5
  clear c5
  simp only [Option.some.injEq, Prod.mk.injEq] at H
  obtain ⟨rfl, rfl, rfl⟩ := H
  go_enter Tryd.func39, Tryd.ntmps39
  go_wp2_with (first | (refine goesM 42 9 Tryd.func42 #[.pointer (some ⟨g, 0, none⟩), .int .i64 (l1.length : Int)] ?_; refine (spec_l1Below.calls g s0_0 s0_1 s0_2 (l1.length : Int) t101 t102 t103 w0 _ (by repeat (first | (with_reducible first | exact HI0.out | apply IsS72.alloc | apply IsS72.drewN | apply IsS72.drew | apply IsS72.set_1 | apply IsS72.set_2) | exact HI0.out)) (by repeat (first | (with_reducible first | exact HB.out | apply below_alloc | apply pw_below_drewN | apply below_drew1 | refine below_set ?_ (IsS72.ge HI0.out)) | exact HB.out)) A3.out).mono ?_; rintro e wz1 ⟨rfl, hi, hb, hk⟩; refine ⟨_, rfl, ?_⟩; replace HK := aM (KeepBut.trans (kX HK.out) hk (.inl rfl)); replace HB := aM (hb); replace HI0 := aM (hi); clear hb hk hi; have pz1 : 0 ≤ (t101 : Int) := odA; have qz1 : t101 < (l1.length : Int) := odA; obtain ⟨adz1, ez1, hxz1⟩ := Kd.at_string HR1.out t101 pz1 qz1; cases ez1; replace hxz1 := keep_cell HK.out hxz1 (by first | (rw [add_block]; exact hf1 _ rfl (by omega)) | exact hf1 _ rfl (by omega) | exact hf1 adz1 rfl (by omega)); replace pz1 := eq_true pz1; replace qz1 := eq_true qz1))
  go_ret
  exact ⟨rE, (i72 HI0.out), (hY HB.out (IsS72.ge HI0.out)), (kX HK.out)⟩
def spec_DrawOpOf.f (k : Nat) (l0 : List Int) : Option (ByteArray) := (spec_l1New.f k l0).bind fun bt101 => ((spec_l4Draw.f k bt101.1 bt101.2.1 bt101.2.2).bind fun bt105 => ((spec_OpText.f k bt105.1 bt105.2.1 bt105.2.2.1).bind fun t110 => ((spec_l1Once.f bt101.1 bt105.2.2.2.1 bt105.2.2.2.2 4).bind fun bt111 => (if bt111.1 = true then ((spec_l1Pick.f bt101.1 bt111.2.1 bt111.2.2 (([(⟨#[]⟩ : ByteArray), (⟨#[112, 117, 116, 32, 48]⟩ : ByteArray), (⟨#[112, 117, 116, 32, 48, 32, 48, 49]⟩ : ByteArray), (⟨#[103, 101, 116, 32, 48, 32, 49]⟩ : ByteArray), (⟨#[115, 99, 97, 110, 32]⟩ : ByteArray), (⟨#[118, 105, 97, 32, 55]⟩ : ByteArray), (⟨#[112, 117, 116, 32, 52, 32, 49]⟩ : ByteArray), (⟨#[110, 111, 110, 101]⟩ : ByteArray)] : List ByteArray))).bind fun bt117 => (some bt117.1)) else (some t110)))))
set_option maxHeartbeats 8000000 in
set_option maxRecDepth 100000 in
theorem spec_DrawOpOf.calls (k : Nat) (A0 : Option Addr) (c0 : Nat) (l0 : List Int) (r : ByteArray) (w : World) (hr0 : Kd.C (Kd.int .u8) w A0 l0.length l0) (hc0 : l0.length ≤ c0) (h : spec_DrawOpOf.f k l0 = some r) :
    Calls Tryd.prog 17 #[.slice A0 l0.length c0] w fun e w' => e = .returned (.string r) ∧ Below w.heap.size w w' := by
  have HR0 := aM hr0
  have HC0 := aM hc0
  clear hr0 hc0
  have HB := aM (Below.refl w.heap.size w)
  have H := h
  unfold spec_DrawOpOf.f at H
  clear h
  replace H := bE H; obtain ⟨⟨t101, t102, t103⟩, A2, H⟩ := H
  try dsimp only at H
  replace H := bE H; obtain ⟨⟨t105, t106, t107, t108, t109⟩, A3, H⟩ := H
  try dsimp only at H
  replace H := bE H; obtain ⟨t110, A4, H⟩ := H
  replace H := bE H; obtain ⟨⟨t111, t112, t113⟩, A5, H⟩ := H
  try dsimp only at H
  go_enter Tryd.func17, Tryd.ntmps17
  go_wp2_with (first | (refine goesM 36 6 Tryd.func36 #[.slice A0 l0.length c0] ?_; refine (spec_l1New.calls k _ _ l0 t101 t102 t103 w _ (by repeat (first | (with_reducible first | exact HB.out | apply below_alloc | apply pw_below_drewN | apply below_drew1) | exact HB.out)) HR0.out HC0.out A2.out).mono ?_; rintro e wz1 ⟨gz1, rfl, hi, hb, hbz1⟩; refine ⟨_, rfl, ?_⟩; have HIz1 := aM (hi); replace HB := aM (hb); clear hb hbz1 hi) | (refine goesM 35 8 Tryd.func35 #[.pointer (some ⟨gz1, 0, none⟩)] ?_; refine (spec_l4Draw.calls k gz1 t101 t102 t103 t105 t106 t107 t108 t109 w _ (by repeat (first | (with_reducible first | exact HIz1.out | apply IsS72.alloc | apply IsS72.drewN | apply IsS72.drew | apply IsS72.set_1 | apply IsS72.set_2) | exact HIz1.out)) (by repeat (first | (with_reducible first | exact HB.out | apply below_alloc | apply pw_below_drewN | apply below_drew1 | refine below_set ?_ (IsS72.ge HIz1.out)) | exact HB.out)) A3.out).mono ?_; rintro e wz2 ⟨rfl, hi, hb, hk⟩; refine ⟨_, rfl, ?_⟩; replace HB := aM (hb); replace HIz1 := aM (hi); clear hb hk hi) | (refine goesM 21 9 Tryd.func21 #[.agg #[.int .i64 t105, .int .i64 t106, .int .i64 t107]] ?_; refine (spec_OpText.calls _ _ _ _ _ _ A4.out).mono ?_; rintro e wz3 ⟨rfl, hb⟩; refine ⟨_, rfl, ?_⟩; replace HB := aM (below_step (hY HB.out (IsS72.ge HIz1.out)) hb); replace HIz1 := aM (IsS72.below (i72 HIz1.out) hb); clear hb; refine Stop.out ?_))
  refine ⟨?_⟩
  by_cases c6 : t111 = true
  case neg =>
    replace c6 := Bool.eq_false_iff.mpr c6
    subst c6
    rw [if_neg nft] at H
    obtain rfl := sI H
    go_wp2_with (first | (refine goesM 38 11 Tryd.func38 #[.pointer (some ⟨gz1, 0, none⟩), .int .i64 4] ?_; refine (spec_l1Once.calls gz1 t101 t108 t109 4 false t112 t113 w _ (by repeat (first | (with_reducible first | exact HIz1.out | apply IsS72.alloc | apply IsS72.drewN | apply IsS72.drew | apply IsS72.set_1 | apply IsS72.set_2) | exact HIz1.out)) (by repeat (first | (with_reducible first | exact HB.out | apply below_alloc | apply pw_below_drewN | apply below_drew1 | refine below_set ?_ (IsS72.ge HIz1.out)) | exact HB.out)) A5.out).mono ?_; rintro e wz4 ⟨rfl, hi, hb, hk⟩; refine ⟨_, rfl, ?_⟩; replace HB := aM (hb); replace HIz1 := aM (hi); clear hb hk hi))
    go_ret
    exact ⟨rE, (hY HB.out (IsS72.ge HIz1.out))⟩
  subst c6
  rw [if_pos rfl] at H
  obtain ⟨y114, hy114⟩ : ∃ y_ : List ByteArray, y_ = (([(⟨#[]⟩ : ByteArray), (⟨#[112, 117, 116, 32, 48]⟩ : ByteArray), (⟨#[112, 117, 116, 32, 48, 32, 48, 49]⟩ : ByteArray), (⟨#[103, 101, 116, 32, 48, 32, 49]⟩ : ByteArray), (⟨#[115, 99, 97, 110, 32]⟩ : ByteArray), (⟨#[118, 105, 97, 32, 55]⟩ : ByteArray), (⟨#[112, 117, 116, 32, 52, 32, 49]⟩ : ByteArray), (⟨#[110, 111, 110, 101]⟩ : ByteArray)] : List ByteArray)) := ⟨_, rfl⟩
  replace H : ((spec_l1Pick.f t101 t112 t113 y114).bind fun bt117 => (some bt117.1)) = some r := yH H hy114
  have Ny114 := aM hy114
  clear hy114
  replace H := bE H; obtain ⟨⟨t117, t118, t119⟩, A7, H⟩ := H
  try dsimp only at H
  obtain rfl := sI H
  go_wp2_with (first | (refine goesM 38 11 Tryd.func38 #[.pointer (some ⟨gz1, 0, none⟩), .int .i64 4] ?_; refine (spec_l1Once.calls gz1 t101 t108 t109 4 true t112 t113 w _ (by repeat (first | (with_reducible first | exact HIz1.out | apply IsS72.alloc | apply IsS72.drewN | apply IsS72.drew | apply IsS72.set_1 | apply IsS72.set_2) | exact HIz1.out)) (by repeat (first | (with_reducible first | exact HB.out | apply below_alloc | apply pw_below_drewN | apply below_drew1 | refine below_set ?_ (IsS72.ge HIz1.out)) | exact HB.out)) A5.out).mono ?_; rintro e wz4 ⟨rfl, hi, hb, hk⟩; refine ⟨_, rfl, ?_⟩; replace HB := aM (hb); replace HIz1 := aM (hi); clear hb hk hi) | ((with_reducible refine gate_dst (N := 13) rfl ?_); refine Kd.R_lit Kd.string _ 9 ?hg (N := 13) ?hd (xs := ([(⟨#[]⟩ : ByteArray), (⟨#[112, 117, 116, 32, 48]⟩ : ByteArray), (⟨#[112, 117, 116, 32, 48, 32, 48, 49]⟩ : ByteArray), (⟨#[103, 101, 116, 32, 48, 32, 49]⟩ : ByteArray), (⟨#[115, 99, 97, 110, 32]⟩ : ByteArray), (⟨#[118, 105, 97, 32, 55]⟩ : ByteArray), (⟨#[112, 117, 116, 32, 52, 32, 49]⟩ : ByteArray), (⟨#[110, 111, 110, 101]⟩ : ByteArray)] : List ByteArray)) (inner := [.string (⟨#[]⟩ : ByteArray), .string (⟨#[112, 117, 116, 32, 48]⟩ : ByteArray), .string (⟨#[112, 117, 116, 32, 48, 32, 48, 49]⟩ : ByteArray), .string (⟨#[103, 101, 116, 32, 48, 32, 49]⟩ : ByteArray), .string (⟨#[115, 99, 97, 110, 32]⟩ : ByteArray), .string (⟨#[118, 105, 97, 32, 55]⟩ : ByteArray), .string (⟨#[112, 117, 116, 32, 52, 32, 49]⟩ : ByteArray), .string (⟨#[110, 111, 110, 101]⟩ : ByteArray)]) (ok := fun _ => True) (okp := fun _ => True) ?hr ?hp (fun _ hk => hk) trivial (Below.refl _ _) (Nat.le_refl _) (by simp) ?_; (case hd => rfl); (case hg => rfl); (case hr => first | (go_simp; done) | (go_simp; rfl)); (case hp => exact (Reps.one (show Kd.M Kd.string _ _ _ (⟨#[]⟩ : ByteArray) [.string (⟨#[]⟩ : ByteArray)] from rfl) (Reps.one (show Kd.M Kd.string _ _ _ (⟨#[112, 117, 116, 32, 48]⟩ : ByteArray) [.string (⟨#[112, 117, 116, 32, 48]⟩ : ByteArray)] from rfl) (Reps.one (show Kd.M Kd.string _ _ _ (⟨#[112, 117, 116, 32, 48, 32, 48, 49]⟩ : ByteArray) [.string (⟨#[112, 117, 116, 32, 48, 32, 48, 49]⟩ : ByteArray)] from rfl) (Reps.one (show Kd.M Kd.string _ _ _ (⟨#[103, 101, 116, 32, 48, 32, 49]⟩ : ByteArray) [.string (⟨#[103, 101, 116, 32, 48, 32, 49]⟩ : ByteArray)] from rfl) (Reps.one (show Kd.M Kd.string _ _ _ (⟨#[115, 99, 97, 110, 32]⟩ : ByteArray) [.string (⟨#[115, 99, 97, 110, 32]⟩ : ByteArray)] from rfl) (Reps.one (show Kd.M Kd.string _ _ _ (⟨#[118, 105, 97, 32, 55]⟩ : ByteArray) [.string (⟨#[118, 105, 97, 32, 55]⟩ : ByteArray)] from rfl) (Reps.one (show Kd.M Kd.string _ _ _ (⟨#[112, 117, 116, 32, 52, 32, 49]⟩ : ByteArray) [.string (⟨#[112, 117, 116, 32, 52, 32, 49]⟩ : ByteArray)] from rfl) (Reps.one (show Kd.M Kd.string _ _ _ (⟨#[110, 111, 110, 101]⟩ : ByteArray) [.string (⟨#[110, 111, 110, 101]⟩ : ByteArray)] from rfl) (Reps.none _ _)))))))))); intro vz1 wz5 hoz1 hb hg_ hnew_; clear hg_ hnew_; (first | rw [← Ny114.out] at hoz1 | (simp only [Int.reduceToNat] at hoz1; rw [← Ny114.out] at hoz1)); have HOz1 := aM (Kd.R_lower hoz1 (below_size (hY HB.out (IsS72.ge HIz1.out)))); replace HB := aM (below_step (hY HB.out (IsS72.ge HIz1.out)) hb); replace HIz1 := aM (IsS72.below (i72 HIz1.out) hb); clear hb hoz1; obtain ⟨Aoz1, coz1, eoz1⟩ := Kd.R_slice HOz1.out; subst eoz1) | (refine goesM 39 14 Tryd.func39 #[.pointer (some ⟨gz1, 0, none⟩), .slice Aoz1 y114.length coz1] ?_; refine (spec_l1Pick.calls gz1 t101 t112 t113 _ _ y114 t117 t118 t119 w _ (by repeat (first | (with_reducible first | exact HIz1.out | apply IsS72.alloc | apply IsS72.drewN | apply IsS72.drew | apply IsS72.set_1 | apply IsS72.set_2) | exact HIz1.out)) (by repeat (first | (with_reducible first | exact HB.out | apply below_alloc | apply pw_below_drewN | apply below_drew1 | refine below_set ?_ (IsS72.ge HIz1.out)) | exact HB.out)) (cX (Kd.R_reads' HOz1.out).2.2) ((Kd.R_reads' HOz1.out).2.1) (by exact far_slice (IsS72.own_ne HIz1.out HOz1.out (by decide))) A7.out).mono ?_; rintro e wz6 ⟨rfl, hi, hb, hk⟩; refine ⟨_, rfl, ?_⟩; replace HOz1 := aM (Kd.R_mono (Kd.R_keep (IsS72.apart (show IsS72 w _ gz1 t101 t112 t113 from (i72 HIz1.out)) (rX HOz1.out) (by decide)) hk (fun _ h => h.2)) (fun _ h => h.1)); replace HB := aM (hb); replace HIz1 := aM (hi); clear hb hk hi))
  go_ret
  exact ⟨rE, (hY HB.out (IsS72.ge HIz1.out))⟩
def spec_DrawThreadNew.l0 : Nat → List (S23) → Int → List Int → Int → Int → Option ((List (S23)))
  | 0, _, _, _, _, _ => none
  | k + 1, x4, x5, x105000, x105001, x105002 => (spec_l1Below.f x105000 x105001 x105002 5).bind fun bt108 => (if x5 < bt108.1 then ((spec_l4Draw.f k x105000 bt108.2.1 bt108.2.2).bind fun bt111 => (if x4.length < 5864062014805 then (spec_DrawThreadNew.l0 k (x4 ++ [(⟨bt111.1, bt111.2.1, bt111.2.2.1⟩ : S23)]) (wrap64 (x5 + 1)) x105000 bt111.2.2.2.1 bt111.2.2.2.2) else (none))) else (some x4))
def spec_DrawThreadNew.f (k : Nat) (l0 : List Int) : Option ((List (S23))) := (spec_l1New.f k l0).bind fun bt101 => (spec_DrawThreadNew.l0 k (([] : List (S23))) 0 bt101.1 bt101.2.1 bt101.2.2)
set_option maxHeartbeats 8000000 in
set_option maxRecDepth 100000 in
theorem spec_DrawThreadNew.calls (k : Nat) (A0 : Option Addr) (c0 : Nat) (l0 : List Int) (r : List (S23)) (w : World) (hr0 : Kd.C (Kd.int .u8) w A0 l0.length l0) (hc0 : l0.length ≤ c0) (h : spec_DrawThreadNew.f k l0 = some r) :
    Calls Tryd.prog 40 #[.slice A0 l0.length c0] w fun e w' => ∃ v0_ : Value, e = .returned (v0_) ∧ Kd.R k23 23 w' w.heap.size (fun _ => True) v0_ r ∧ Below w.heap.size w w' := by
  have HR0 := aM hr0
  have HC0 := aM hc0
  clear hr0 hc0
  have HB := aM (Below.refl w.heap.size w)
  have H := h
  unfold spec_DrawThreadNew.f at H
  clear h
  replace H := bE H; obtain ⟨⟨t101, t102, t103⟩, A2, H⟩ := H
  try dsimp only at H
  obtain ⟨y105, hy105⟩ : ∃ y_ : List (S23), y_ = (([] : List (S23))) := ⟨_, rfl⟩
  replace H : (spec_DrawThreadNew.l0 k y105 0 t101 t102 t103) = some r := yH H hy105
  have Ny105 := aM hy105
  clear hy105
  have H' := aM H
  clear H
  go_enter Tryd.func40, Tryd.ntmps40
  go_wp2_with (first | (refine goesM 36 7 Tryd.func36 #[.slice A0 l0.length c0] ?_; refine (spec_l1New.calls k _ _ l0 t101 t102 t103 w _ (by repeat (first | (with_reducible first | exact HB.out | apply below_alloc | apply pw_below_drewN | apply below_drew1) | exact HB.out)) HR0.out HC0.out A2.out).mono ?_; rintro e wz1 ⟨gz1, rfl, hi, hb, hbz1⟩; refine ⟨_, rfl, ?_⟩; have HIz1 := aM (hi); replace HB := aM (hb); clear hb hbz1 hi) | ((with_reducible refine gate_dst (N := 8) rfl ?_); refine Kd.R_lit k23 _ 23 ?hg (N := 8) ?hd (xs := ([] : List (S23))) (inner := []) (ok := fun _ => True) (okp := fun _ => True) ?hr ?hp (fun _ hk => hk) trivial (Below.refl _ _) (Nat.le_refl _) (by simp) ?_; (case hd => rfl); (case hg => rfl); (case hr => first | (go_simp; done) | (go_simp; rfl)); (case hp => exact (Reps.none _ _)); intro vz1 wz2 hoz1 hb hg_ hnew_; clear hg_ hnew_; (first | rw [← Ny105.out] at hoz1 | (simp only [Int.reduceToNat] at hoz1; rw [← Ny105.out] at hoz1)); have HOz1 := aM (Kd.R_lower hoz1 (below_size (hY HB.out (IsS72.ge HIz1.out)))); replace HB := aM (below_step (hY HB.out (IsS72.ge HIz1.out)) hb); replace HIz1 := aM (IsS72.below (i72 HIz1.out) hb); clear hb hoz1))
  go_loopg [4, 5] k (fun kq v4 v5 w' => ∃ (x4_1 : List (S23)) (x5_1 : Int) (x105001_1 : Int) (x105002_1 : Int), v5 = .int .i64 x5_1 ∧ Aside0 (spec_DrawThreadNew.l0 kq x4_1 x5_1 t101 x105001_1 x105002_1 = some r) ∧ Aside0 (kq ≤ k) ∧ Aside0 (Kd.R k23 23 w' w.heap.size (fun _ => True) v4 x4_1) ∧ Aside0 (IsS72 w w' gz1 t101 x105001_1 x105002_1) ∧ Aside0 (Below w.heap.size w w'))
  case atStart => exact ⟨(y105), (0), (t102), (t103), rS, H', ⟨Nat.le_refl _⟩, ⟨(rX HOz1.out)⟩, ⟨(i72 HIz1.out)⟩, ⟨(hY HB.out (IsS72.ge HIz1.out))⟩⟩
  case round =>
    clear H'
    try clear p2
    obtain ⟨x4_1, x5_1, x105001_1, x105002_1, rfl, HA, HKy1, HO_y1, HIz1, HB⟩ := hrel
    cases gk with
    | zero => exact absurd HA.out (by simp [spec_DrawThreadNew.l0])
    | succ k1 =>
      have H := HA.out
      clear HA
      simp only [spec_DrawThreadNew.l0] at H
      replace H := bE H; obtain ⟨⟨t108, t109, t110⟩, A6, H⟩ := H
      try dsimp only at H
      go_wp2_with (first | (refine goesM 42 11 Tryd.func42 #[.pointer (some ⟨gz1, 0, none⟩), .int .i64 5] ?_; refine (spec_l1Below.calls gz1 t101 x105001_1 x105002_1 5 t108 t109 t110 w _ (by repeat (first | (with_reducible first | exact HIz1.out | apply IsS72.alloc | apply IsS72.drewN | apply IsS72.drew | apply IsS72.set_1 | apply IsS72.set_2) | exact HIz1.out)) (by repeat (first | (with_reducible first | exact HB.out | apply below_alloc | apply pw_below_drewN | apply below_drew1 | refine below_set ?_ (IsS72.ge HIz1.out)) | exact HB.out)) A6.out).mono ?_; rintro e wx1 ⟨rfl, hi, hb, hk⟩; refine ⟨_, rfl, ?_⟩; replace HO_y1 := aM (Kd.R_mono (Kd.R_keep (IsS72.apart (show IsS72 w _ gz1 t101 x105001_1 x105002_1 from (i72 HIz1.out)) (rX HO_y1.out) (by decide)) hk (fun _ h => h.2)) (fun _ h => h.1)); replace HB := aM (hb); replace HIz1 := aM (hi); clear hb hk hi; refine Stop.out ?_))
      refine ⟨?_⟩
      by_cases c7 : x5_1 < t108
      case neg =>
        rw [if_neg c7] at H
        have c7b0 := decide_eq_false c7
        clear c7
        obtain rfl := sI H
        go_wp2
        go_ret
        exact ⟨_, rE, (rX HO_y1.out), (hY HB.out (IsS72.ge HIz1.out))⟩
      rw [if_pos c7] at H
      have c7b0 := decide_eq_true c7
      clear c7
      replace H := bE H; obtain ⟨⟨t111, t112, t113, t114, t115⟩, A8, H⟩ := H
      try dsimp only at H
      replace H := ifP H; obtain ⟨c9, H⟩ := H
      have LMc9 := aM c9
      clear c9
      obtain ⟨y116, hy116⟩ : ∃ y_ : List (S23), y_ = (x4_1 ++ [(⟨t111, t112, t113⟩ : S23)]) := ⟨_, rfl⟩
      replace H : (spec_DrawThreadNew.l0 k1 y116 (wrap64 (x5_1 + 1)) t101 t114 t115) = some r := yH H hy116
      have Ny116 := aM hy116
      clear hy116
      have H' := aM H
      clear H
      go_wp2_with (first | (refine goesM 35 17 Tryd.func35 #[.pointer (some ⟨gz1, 0, none⟩)] ?_; refine (spec_l4Draw.calls k1 gz1 t101 t109 t110 t111 t112 t113 t114 t115 w _ (by repeat (first | (with_reducible first | exact HIz1.out | apply IsS72.alloc | apply IsS72.drewN | apply IsS72.drew | apply IsS72.set_1 | apply IsS72.set_2) | exact HIz1.out)) (by repeat (first | (with_reducible first | exact HB.out | apply below_alloc | apply pw_below_drewN | apply below_drew1 | refine below_set ?_ (IsS72.ge HIz1.out)) | exact HB.out)) A8.out).mono ?_; rintro e wx2 ⟨rfl, hi, hb, hk⟩; refine ⟨_, rfl, ?_⟩; replace HO_y1 := aM (Kd.R_mono (Kd.R_keep (IsS72.apart (show IsS72 w _ gz1 t101 t109 t110 from (i72 HIz1.out)) (rX HO_y1.out) (by decide)) hk (fun _ h => h.2)) (fun _ h => h.1)); replace HB := aM (hb); replace HIz1 := aM (hi); clear hb hk hi) | ((with_reducible refine gate_builtin (b := .append) (xs := #[.tmp 15, .tmp 18]) rfl ?_); at_builtin; refine Kd.R_append k23 (w0 := w) w.heap.size rfl (.tmp 15) (.tmp 18) 28 23 (.agg #[(.int .i64 0), (.int .i64 0), (.int .i64 0)]) 24 rfl Tryd.underlying28 info23 rfl (by decide) (by omega) u4 x4_1 (⟨t111, t112, t113⟩ : S23) [.int .i64 t111, .int .i64 t112, .int .i64 t113] (fun _ => True) (fun _ => False) rfl rfl ?aP (fun _ hk => hk.elim) ?aF ?aO ?aB ?aS ?aL ?_; (case aP => exact k23_mkM _ _ _ (⟨t111, t112, t113⟩ : S23)); (case aB => exact (hY HB.out (IsS72.ge HIz1.out))); (case aF => exact (fun _ _ => trivial)); (case aO => exact (rX HO_y1.out)); (case aS => exact (below_size (hY HB.out (IsS72.ge HIz1.out)))); (case aL => have := LMc9.out; omega); intro vx1 wx3 ho hb hg hat; rw [← Ny116.out] at ho; have HOx1 := aM (ho); replace HIz1 := aM (IsS72.grown (i72 HIz1.out) hg (IsS72.own_ne HIz1.out HO_y1.out (by decide))); replace HB := aM (hb); clear HO_y1; clear ho hb hg hat))
      go_roundg k1
      case measure => have := HKy1.out; omega
      case rel => exact ⟨(y116), (wrap64 (x5_1 + 1)), (t114), (t115), rS, H', ⟨by have := HKy1.out; omega⟩, ⟨(rX HOx1.out)⟩, ⟨(i72 HIz1.out)⟩, ⟨(hY HB.out (IsS72.ge HIz1.out))⟩⟩
def spec_DrawProgText.f (k : Nat) (l0 : List Int) : Option ((List (S23))) := (spec_DrawThreadNew.f k l0).bind fun t101 => (some t101)
set_option maxHeartbeats 8000000 in
set_option maxRecDepth 100000 in
theorem spec_DrawProgText.calls (k : Nat) (A0 : Option Addr) (c0 : Nat) (l0 : List Int) (r : List (S23)) (w : World) (hr0 : Kd.C (Kd.int .u8) w A0 l0.length l0) (hc0 : l0.length ≤ c0) (h : spec_DrawProgText.f k l0 = some r) :
    Calls Tryd.prog 18 #[.slice A0 l0.length c0] w fun e w' => ∃ v0_ : Value, e = .returned (v0_) ∧ Kd.R k23 23 w' w.heap.size (fun _ => True) v0_ r ∧ Below w.heap.size w w' := by
  have HR0 := aM hr0
  have HC0 := aM hc0
  clear hr0 hc0
  have HB := aM (Below.refl w.heap.size w)
  have H := h
  unfold spec_DrawProgText.f at H
  clear h
  replace H := bE H; obtain ⟨t101, A2, H⟩ := H
  obtain rfl := sI H
  go_enter Tryd.func18, Tryd.ntmps18
  go_wp2_with (first | (refine goesM 40 4 Tryd.func40 #[.slice A0 l0.length c0] ?_; refine (spec_DrawThreadNew.calls _ _ _ _ _ _ (cX HR0.out) HC0.out A2.out).mono ?_; rintro e wz1 ⟨vz1, rfl, hoz1, hb⟩; refine ⟨_, rfl, ?_⟩; have HOz1 := aM (Kd.R_lower hoz1 (below_size (hX HB.out))); replace HB := aS HB hb; clear hb hoz1))
  go_ret
  exact ⟨_, rE, (rX HOz1.out), (hX HB.out)⟩
def spec_ProgText.l0 : Nat → List (S23) → ByteArray → Int → Option (ByteArray)
  | 0, _, _, _ => none
  | k + 1, x0, x3, x4 => if x4 < (x0.length : Int) then (if x4 > 0 then (if x3.size + 1 ≤ 9223372036854775807 then (if 0 ≤ x4 then ((spec_OpText.f k ((rd_T23 x0 x4).f0) ((rd_T23 x0 x4).f1) ((rd_T23 x0 x4).f2)).bind fun t102 => (if (x3 ++ (⟨#[59]⟩ : ByteArray)).size + t102.size ≤ 9223372036854775807 then (spec_ProgText.l0 k x0 ((x3 ++ (⟨#[59]⟩ : ByteArray)) ++ t102) (wrap64 (x4 + 1))) else (none))) else (none)) else (none)) else (if 0 ≤ x4 then ((spec_OpText.f k ((rd_T23 x0 x4).f0) ((rd_T23 x0 x4).f1) ((rd_T23 x0 x4).f2)).bind fun t104 => (if x3.size + t104.size ≤ 9223372036854775807 then (spec_ProgText.l0 k x0 (x3 ++ t104) (wrap64 (x4 + 1))) else (none))) else (none))) else (some x3)
def spec_ProgText.f (k : Nat) (l0 : List (S23)) : Option (ByteArray) := spec_ProgText.l0 k l0 (⟨#[]⟩ : ByteArray) 0
set_option maxHeartbeats 8000000 in
set_option maxRecDepth 100000 in
theorem spec_ProgText.calls (k : Nat) (A0 : Option Addr) (c0 : Nat) (l0 : List (S23)) (r : ByteArray) (w : World) (hr0 : Kd.C k23 w A0 l0.length l0) (hc0 : l0.length ≤ c0) (h : spec_ProgText.f k l0 = some r) :
    Calls Tryd.prog 23 #[.slice A0 l0.length c0] w fun e w' => e = .returned (.string r) ∧ Below w.heap.size w w' := by
  have hu23 := Tryd.underlying23
  have HR0 := aM hr0
  have HC0 := aM hc0
  clear hr0 hc0
  have HB := aM (Below.refl w.heap.size w)
  have H := h
  unfold spec_ProgText.f at H
  clear h
  have H' := aM H
  clear H
  go_enter Tryd.func23, Tryd.ntmps23
  go_wp2
  go_loopg [3, 4] k (fun kq v3 v4 w' => ∃ (x3_1 : ByteArray) (x4_1 : Int), v3 = .string x3_1 ∧ v4 = .int .i64 x4_1 ∧ Aside0 (spec_ProgText.l0 kq l0 x3_1 x4_1 = some r) ∧ Aside0 (kq ≤ k) ∧ Aside0 (Below w.heap.size w w'))
  case atStart => exact ⟨((⟨#[]⟩ : ByteArray)), (0), rS, rS, H', ⟨Nat.le_refl _⟩, ⟨(hX HB.out)⟩⟩
  case round =>
    clear H'
    obtain ⟨x3_1, x4_1, rfl, rfl, HA, HKy1, HB⟩ := hrel
    cases gk with
    | zero => exact absurd HA.out (by simp [spec_ProgText.l0])
    | succ k1 =>
      have H := HA.out
      clear HA
      simp only [spec_ProgText.l0] at H
      by_cases c2 : x4_1 < (l0.length : Int)
      case neg =>
        rw [if_neg c2] at H
        have c2b0 := decide_eq_false c2
        clear c2
        obtain rfl := sI H
        go_wp2
        go_ret
        exact ⟨rE, (hX HB.out)⟩
      rw [if_pos c2] at H
      have c2b0 := decide_eq_true c2
      clear c2
      by_cases c3 : x4_1 > 0
      case neg =>
        rw [if_neg c3] at H
        have c3b0 := decide_eq_false c3
        clear c3
        replace H := ifP H; obtain ⟨c9, H⟩ := H
        have c9b0 := decide_eq_true c9
        clear c9
        replace H := bE H; obtain ⟨t104, A10, H⟩ := H
        replace H := ifP H; obtain ⟨c11, H⟩ := H
        have c11b0 := eq_true c11
        have c11b1 := decide_eq_true c11
        try have c11b2 : (9223372036854775807 < x3_1.size + t104.size) = False := eq_false (Nat.not_lt.2 c11)
        have H' := aM H
        clear H
        obtain ⟨adx1, ex1, px1, qx1, hxx1⟩ := at_T23c HR0 HB x4_1
        cases ex1
        go_wp2_with (first | (refine goesM 21 20 Tryd.func21 #[.agg #[.int .i64 ((rd_T23 l0 x4_1).f0), .int .i64 ((rd_T23 l0 x4_1).f1), .int .i64 ((rd_T23 l0 x4_1).f2)]] ?_; refine (spec_OpText.calls _ _ _ _ _ _ A10.out).mono ?_; rintro e wx1 ⟨rfl, hb⟩; refine ⟨_, rfl, ?_⟩; replace HB := aS HB hb; clear hb))
        go_roundg k1
        case measure => have := HKy1.out; omega
        case rel => exact ⟨(x3_1 ++ t104), (wrap64 (x4_1 + 1)), rS, rS, H', ⟨by have := HKy1.out; omega⟩, ⟨(hX HB.out)⟩⟩
      rw [if_pos c3] at H
      have c3b0 := decide_eq_true c3
      clear c3
      replace H := ifP H; obtain ⟨c4, H⟩ := H
      have c4b0 := eq_true c4
      have c4b1 := decide_eq_true c4
      try have c4b2 : (9223372036854775807 < x3_1.size + 1) = False := eq_false (Nat.not_lt.2 c4)
      replace H := ifP H; obtain ⟨c5, H⟩ := H
      have c5b0 := decide_eq_true c5
      clear c5
      replace H := bE H; obtain ⟨t102, A6, H⟩ := H
      replace H := ifP H; obtain ⟨c7, H⟩ := H
      have c7b0 := eq_true c7
      have c7b1 := decide_eq_true c7
      try have c7b2 : (9223372036854775807 < (x3_1 ++ (⟨#[59]⟩ : ByteArray)).size + t102.size) = False := eq_false (Nat.not_lt.2 c7)
      (try (have c7b3 : x3_1.size + 1 + t102.size ≤ 9223372036854775807 := (by have h_ := c7; simp only [ByteArray.size_append, strOfNums_size] at h_; exact h_); have c7b4 := eq_true c7b3; (try have c7b5 := decide_eq_true c7b3); (try have c7b6 := eq_false (Nat.not_lt.2 c7b3))))
      have H' := aM H
      clear H
      obtain ⟨adx1, ex1, px1, qx1, hxx1⟩ := at_T23c HR0 HB x4_1
      cases ex1
      go_wp2_with (first | (refine goesM 21 20 Tryd.func21 #[.agg #[.int .i64 ((rd_T23 l0 x4_1).f0), .int .i64 ((rd_T23 l0 x4_1).f1), .int .i64 ((rd_T23 l0 x4_1).f2)]] ?_; refine (spec_OpText.calls _ _ _ _ _ _ A6.out).mono ?_; rintro e wx1 ⟨rfl, hb⟩; refine ⟨_, rfl, ?_⟩; replace HB := aS HB hb; clear hb))
      go_roundg k1
      case measure => have := HKy1.out; omega
      case rel => exact ⟨((x3_1 ++ (⟨#[59]⟩ : ByteArray)) ++ t102), (wrap64 (x4_1 + 1)), rS, rS, H', ⟨by have := HKy1.out; omega⟩, ⟨(hX HB.out)⟩⟩
mutual
def spec_l9DrawOps.l0 : Nat → List (List (S23)) → Int → List Int → Int → Int → Option ((List (List (S23))) × Int × Int)
  | 0, _, _, _, _, _ => none
  | k + 1, x3, x4, x1000, x1001, x1002 => (spec_l1Below.f x1000 x1001 x1002 3).bind fun bt104 => (if x4 < (wrap64 (1 + bt104.1)) then (spec_l9DrawOps.l1 k x3 x4 (([] : List (S23))) 0 x1000 bt104.2.1 bt104.2.2) else (some (x3, bt104.2.1, bt104.2.2)))
def spec_l9DrawOps.l1 : Nat → List (List (S23)) → Int → List (S23) → Int → List Int → Int → Int → Option ((List (List (S23))) × Int × Int)
  | 0, _, _, _, _, _, _, _ => none
  | k + 1, x3, x4, x5, x6, x1000, x1001, x1002 => (spec_l1Below.f x1000 x1001 x1002 4).bind fun bt110 => (if x6 < (wrap64 (1 + bt110.1)) then ((spec_l4DrawRight.f k x1000 bt110.2.1 bt110.2.2).bind fun bt113 => (if x5.length < 5864062014805 then (spec_l9DrawOps.l1 k x3 x4 (x5 ++ [(⟨bt113.1, bt113.2.1, bt113.2.2.1⟩ : S23)]) (wrap64 (x6 + 1)) x1000 bt113.2.2.2.1 bt113.2.2.2.2) else (none))) else (if x3.length < 5864062014805 then (spec_l9DrawOps.l0 k (x3 ++ [x5]) (wrap64 (x4 + 1)) x1000 bt110.2.1 bt110.2.2) else (none)))
end
def spec_l9DrawOps.f (k : Nat) (s0_0 : List Int) (s0_1 : Int) (s0_2 : Int) : Option ((List (List (S23))) × Int × Int) := spec_l9DrawOps.l0 k (([] : List (List (S23)))) 0 s0_0 s0_1 s0_2
set_option maxHeartbeats 8000000 in
set_option maxRecDepth 100000 in
theorem spec_l9DrawOps.calls (k : Nat) (g : Nat) (s0_0 : List Int) (s0_1 : Int) (s0_2 : Int) (r1 : List (List (S23))) (r2 : Int) (r3 : Int) (w0 w : World) (hI : IsS72 w0 w g s0_0 s0_1 s0_2) (hB : Below w0.heap.size w0 w) (h : spec_l9DrawOps.f k s0_0 s0_1 s0_2 = some (r1, r2, r3)) :
    Calls Tryd.prog 41 #[.pointer (some ⟨g, 0, none⟩)] w fun e w' => ∃ v0_ : Value, e = .returned (v0_) ∧ Kd.S (Kd.slice 23 k23) 28 w' w.heap.size (fun _ => True) v0_ r1 ∧ IsS72 w0 w' g s0_0 r2 r3 ∧ Below w0.heap.size w0 w' ∧ KeepBut w w' g none := by
  have HI0 := aM hI
  have HK := aM (KeepBut.refl w g none)
  have HL := aM hB.size
  clear hI
  have HW0 := aM hB.size
  have HB := aM hB
  clear hB
  have H := h
  unfold spec_l9DrawOps.f at H
  clear h
  obtain ⟨y101, hy101⟩ : ∃ y_ : List (List (S23)), y_ = (([] : List (List (S23)))) := ⟨_, rfl⟩
  replace H : (spec_l9DrawOps.l0 k y101 0 s0_0 s0_1 s0_2) = some (r1, r2, r3) := yH H hy101
  have Ny101 := aM hy101
  clear hy101
  have H' := aM H
  clear H
  go_enter Tryd.func41, Tryd.ntmps41
  go_wp2_with (first | ((with_reducible refine gate_dst (N := 7) rfl ?_); refine Kd.S_lit (Kd.slice 23 k23) _ 28 ?hg (N := 7) ?hd (xs := ([] : List (List (S23)))) (inner := []) (ok := fun _ => True) (okp := fun _ => True) ?hr ?hp (fun _ hk => hk) trivial (Below.refl _ _) (Nat.le_refl _) (by simp) ?_; (case hd => rfl); (case hg => rfl); (case hr => first | (go_simp; done) | (go_simp; rfl)); (case hp => exact (Reps.none _ _)); intro vz1 wz1 hoz1 hb hg_ hnew_; clear hg_ hnew_; (first | rw [← Ny101.out] at hoz1 | (simp only [Int.reduceToNat] at hoz1; rw [← Ny101.out] at hoz1)); have HOz1 := aM (Kd.S_lower hoz1 (keep_size (w := w) (g := g) (row := none) (kX HK.out))); replace HK := aM (KeepBut.trans (kX HK.out) (KeepBut.of_below hb g none) (.inl rfl)); replace HB := aM (below_step (hY HB.out (IsS72.ge HI0.out)) hb); replace HI0 := aM (IsS72.below (i72 HI0.out) hb); clear hb hoz1))
  go_loopg [3, 4] k (fun kq v3 v4 w' => ∃ (x3_1 : List (List (S23))) (x4_1 : Int) (x1001_1 : Int) (x1002_1 : Int), v4 = .int .i64 x4_1 ∧ Aside0 (spec_l9DrawOps.l0 kq x3_1 x4_1 s0_0 x1001_1 x1002_1 = some (r1, r2, r3)) ∧ Aside0 (kq ≤ k) ∧ Aside0 (Kd.S (Kd.slice 23 k23) 28 w' w.heap.size (fun _ => True) v3 x3_1) ∧ Aside0 (IsS72 w0 w' g s0_0 x1001_1 x1002_1) ∧ Aside0 (KeepBut w w' g none) ∧ Aside0 (Below w0.heap.size w0 w'))
  case atStart => exact ⟨(y101), (0), (s0_1), (s0_2), rS, H', ⟨Nat.le_refl _⟩, ⟨(sX HOz1.out)⟩, ⟨(i72 HI0.out)⟩, ⟨(kX HK.out)⟩, ⟨(hY HB.out (IsS72.ge HI0.out))⟩⟩
  case round =>
    clear H'
    try clear p2
    obtain ⟨x3_1, x4_1, x1001_1, x1002_1, rfl, HA, HKy1, HO_y1, HI0, HK, HB⟩ := hrel
    cases gk with
    | zero => exact absurd HA.out (by simp [spec_l9DrawOps.l0])
    | succ k1 =>
      have H := HA.out
      clear HA
      simp only [spec_l9DrawOps.l0] at H
      replace H := bE H; obtain ⟨⟨t104, t105, t106⟩, A4, H⟩ := H
      try dsimp only at H
      go_wp2_with (first | (refine goesM 42 10 Tryd.func42 #[.pointer (some ⟨g, 0, none⟩), .int .i64 3] ?_; refine (spec_l1Below.calls g s0_0 x1001_1 x1002_1 3 t104 t105 t106 w0 _ (by repeat (first | (with_reducible first | exact HI0.out | apply IsS72.alloc | apply IsS72.drewN | apply IsS72.drew | apply IsS72.set_1 | apply IsS72.set_2) | exact HI0.out)) (by repeat (first | (with_reducible first | exact HB.out | apply below_alloc | apply pw_below_drewN | apply below_drew1 | refine below_set ?_ (IsS72.ge HI0.out)) | exact HB.out)) A4.out).mono ?_; rintro e wx1 ⟨rfl, hi, hb, hk⟩; refine ⟨_, rfl, ?_⟩; replace HO_y1 := aM (Kd.S_mono (Kd.S_keep (IsS72.apartS (show IsS72 w0 _ g s0_0 x1001_1 x1002_1 from (i72 HI0.out)) (sX HO_y1.out) (by decide)) hk (fun _ h => h.2)) (fun _ h => h.1)); replace HK := aM (KeepBut.trans (kX HK.out) hk (.inl rfl)); replace HB := aM (hb); replace HI0 := aM (hi); clear hb hk hi; refine Stop.out ?_))
      refine ⟨?_⟩
      by_cases c5 : x4_1 < (wrap64 (1 + t104))
      case neg =>
        rw [if_neg c5] at H
        have c5b0 := decide_eq_false c5
        clear c5
        simp only [Option.some.injEq, Prod.mk.injEq] at H
        obtain ⟨rfl, rfl, rfl⟩ := H
        go_wp2
        go_ret
        exact ⟨_, rE, (sX HO_y1.out), (i72 HI0.out), (hY HB.out (IsS72.ge HI0.out)), (kX HK.out)⟩
      rw [if_pos c5] at H
      have c5b0 := decide_eq_true c5
      clear c5
      obtain ⟨y107, hy107⟩ : ∃ y_ : List (S23), y_ = (([] : List (S23))) := ⟨_, rfl⟩
      replace H : (spec_l9DrawOps.l1 k1 x3_1 x4_1 y107 0 s0_0 t105 t106) = some (r1, r2, r3) := yH H hy107
      have Ny107 := aM hy107
      clear hy107
      have H' := aM H
      clear H
      go_wp2_with (first | ((with_reducible refine gate_dst (N := 15) rfl ?_); refine Kd.R_lit k23 _ 23 ?hg (N := 15) ?hd (xs := ([] : List (S23))) (inner := []) (ok := fun _ => True) (okp := fun _ => True) ?hr ?hp (fun _ hk => hk) trivial (Below.refl _ _) (Nat.le_refl _) (by simp) ?_; (case hd => rfl); (case hg => rfl); (case hr => first | (go_simp; done) | (go_simp; rfl)); (case hp => exact (Reps.none _ _)); intro vx1 wx2 hox1 hb hg_ hnew_; clear hg_ hnew_; (first | rw [← Ny107.out] at hox1 | (simp only [Int.reduceToNat] at hox1; rw [← Ny107.out] at hox1)); have HOx1 := aM (Kd.R_lower hox1 (keep_size (w := w) (g := g) (row := none) (kX HK.out))); replace HO_y1 := aM (Kd.S_elder' (sX HO_y1.out) (Kd.R_base hox1) hb); replace HK := aM (KeepBut.trans (kX HK.out) (KeepBut.of_below hb g none) (.inl rfl)); replace HB := aM (below_step (hY HB.out (IsS72.ge HI0.out)) hb); replace HI0 := aM (IsS72.below (i72 HI0.out) hb); clear hb hox1))
      go_loopg [5, 6] k1 (fun kq v5 v6 w' => ∃ (x5_2 : List (S23)) (x6_2 : Int) (x1001_2 : Int) (x1002_2 : Int), v6 = .int .i64 x6_2 ∧ Aside0 (spec_l9DrawOps.l1 kq x3_1 x4_1 x5_2 x6_2 s0_0 x1001_2 x1002_2 = some (r1, r2, r3)) ∧ Aside0 (kq ≤ k1) ∧ Aside0 (Kd.S (Kd.slice 23 k23) 28 w' w.heap.size (fun k_ => some k_ ≠ (v5 : Value).ownBlock) u3 x3_1) ∧ Aside0 (Kd.R k23 23 w' w.heap.size (fun _ => True) v5 x5_2) ∧ Aside0 (IsS72 w0 w' g s0_0 x1001_2 x1002_2) ∧ Aside0 (KeepBut w w' g none) ∧ Aside0 (Below w0.heap.size w0 w'))
      case atStart => exact ⟨(y107), (0), (t105), (t106), rS, H', ⟨Nat.le_refl _⟩, ⟨by (with_reducible repeat (first | apply Kd.S_alloc | apply Kd.S_drewN | apply Kd.S_drew)); exact Kd.S_mono HO_y1.out (fun _ hk => hk.2)⟩, ⟨(rX HOx1.out)⟩, ⟨(i72 HI0.out)⟩, ⟨(kX HK.out)⟩, ⟨(hY HB.out (IsS72.ge HI0.out))⟩⟩
      case round =>
        clear H'
        try clear p2
        try clear c5
        try clear c5b0
        try clear p6
        obtain ⟨x5_2, x6_2, x1001_2, x1002_2, rfl, HA, HKw1, HO_y1, HO_w1, HI0, HK, HB⟩ := hrel
        cases gk with
        | zero => exact absurd HA.out (by simp [spec_l9DrawOps.l1])
        | succ k2 =>
          have H := HA.out
          clear HA
          simp only [spec_l9DrawOps.l1] at H
          replace H := bE H; obtain ⟨⟨t110, t111, t112⟩, A9, H⟩ := H
          try dsimp only at H
          by_cases c10 : x6_2 < (wrap64 (1 + t110))
          case neg =>
            rw [if_neg c10] at H
            have c10b0 := decide_eq_false c10
            clear c10
            replace H := ifP H; obtain ⟨c16, H⟩ := H
            have LMc16 := aM c16
            clear c16
            obtain ⟨y121, hy121⟩ : ∃ y_ : List (List (S23)), y_ = (x3_1 ++ [x5_2]) := ⟨_, rfl⟩
            replace H : (spec_l9DrawOps.l0 k2 y121 (wrap64 (x4_1 + 1)) s0_0 t111 t112) = some (r1, r2, r3) := yH H hy121
            have Ny121 := aM hy121
            clear hy121
            have H' := aM H
            clear H
            go_wp2_with (first | (refine goesM 42 18 Tryd.func42 #[.pointer (some ⟨g, 0, none⟩), .int .i64 4] ?_; refine (spec_l1Below.calls g s0_0 x1001_2 x1002_2 4 t110 t111 t112 w0 _ (by repeat (first | (with_reducible first | exact HI0.out | apply IsS72.alloc | apply IsS72.drewN | apply IsS72.drew | apply IsS72.set_1 | apply IsS72.set_2) | exact HI0.out)) (by repeat (first | (with_reducible first | exact HB.out | apply below_alloc | apply pw_below_drewN | apply below_drew1 | refine below_set ?_ (IsS72.ge HI0.out)) | exact HB.out)) A9.out).mono ?_; rintro e wv1 ⟨rfl, hi, hb, hk⟩; refine ⟨_, rfl, ?_⟩; replace HO_y1 := aM (Kd.S_mono (Kd.S_keep (IsS72.apartS (show IsS72 w0 _ g s0_0 x1001_2 x1002_2 from (i72 HI0.out)) (sX HO_y1.out) (by decide)) hk (fun _ h => h.2)) (fun _ h => h.1)); replace HO_w1 := aM (Kd.R_mono (Kd.R_keep (IsS72.apart (show IsS72 w0 _ g s0_0 x1001_2 x1002_2 from (i72 HI0.out)) (rX HO_w1.out) (by decide)) hk (fun _ h => h.2)) (fun _ h => h.1)); replace HK := aM (KeepBut.trans (kX HK.out) hk (.inl rfl)); replace HB := aM (hb); replace HI0 := aM (hi); clear hb hk hi; obtain ⟨Aov1, cov1, eov1⟩ := Kd.R_slice HO_w1.out; subst eov1) | ((with_reducible refine gate_builtin (b := .append) (xs := #[.tmp 28, .tmp 30]) rfl ?_); at_builtin; refine Kd.S_append (Kd.slice 23 k23) w.heap.size rfl (.tmp 28) (.tmp 30) 60 28 (.slice none 0 0) 24 rfl Tryd.underlying60 info28 rfl (by decide) (by omega) u3 x3_1 x5_2 [.slice Aov1 x5_2.length cov1] (fun _ => True) (fun k_ => some k_ = (.slice Aov1 x5_2.length cov1 : Value).ownBlock) rfl rfl ?aP (fun k_ hk_ => ((Kd.R_mono (ok' := fun k_ => ((fun _ => True)) k_ ∧ some k_ ≠ (u3 : Value).ownBlock) (Kd.R_apart' (HO_w1.out) (Kd.S_typed HO_y1.out) (by decide)) (fun k_ hk => ⟨trivial, hk.2⟩))).1 k_ hk_.symm) ?aF ?aO (Below.refl _ _) ?aS ?aL ?_; (case aP => exact Kd.M_row (Kd.R_mono (Kd.R_tight rfl (Kd.R_mono (ok' := fun k_ => ((fun _ => True)) k_ ∧ some k_ ≠ (u3 : Value).ownBlock) (Kd.R_apart' (HO_w1.out) (Kd.S_typed HO_y1.out) (by decide)) (fun k_ hk => ⟨trivial, hk.2⟩))) (fun _ h_ => h_))); (case aF => exact (fun _ _ => trivial)); (case aO => exact (by (with_reducible repeat (first | apply Kd.S_alloc | apply Kd.S_drewN | apply Kd.S_drew)); exact Kd.S_mono HO_y1.out (fun k_ hk => ⟨trivial, fun e_ => hk e_⟩))); (case aS => exact (keep_size (w := w) (g := g) (row := none) (kX HK.out))); (case aL => have := LMc16.out; omega); intro vv1 wv2 ho hb hg hat; rw [← Ny121.out] at ho; have HOv1 := aM (ho); replace HB := aM (below_weaken (hY HB.out (IsS72.ge HI0.out)) HL.out hb); replace HI0 := aM (IsS72.grown (i72 HI0.out) hg (IsS72.own_neS HI0.out HO_y1.out (by decide))); replace HK := aM (KeepBut.trans (kX HK.out) (KeepBut.of_grown hg g) (Kd.S_base2 HO_y1.out)); clear HO_y1 HO_w1; clear ho hb hg hat))
            go_roundg k2
            case measure => have := HKy1.out; have := HKw1.out; omega
            case rel => exact ⟨(y121), (wrap64 (x4_1 + 1)), (t111), (t112), rS, H', ⟨by have := HKy1.out; have := HKw1.out; omega⟩, ⟨(sX HOv1.out)⟩, ⟨(i72 HI0.out)⟩, ⟨(kX HK.out)⟩, ⟨(hY HB.out (IsS72.ge HI0.out))⟩⟩
          rw [if_pos c10] at H
          have c10b0 := decide_eq_true c10
          clear c10
          replace H := bE H; obtain ⟨⟨t113, t114, t115, t116, t117⟩, A11, H⟩ := H
          try dsimp only at H
          replace H := ifP H; obtain ⟨c12, H⟩ := H
          have LMc12 := aM c12
          clear c12
          obtain ⟨y118, hy118⟩ : ∃ y_ : List (S23), y_ = (x5_2 ++ [(⟨t113, t114, t115⟩ : S23)]) := ⟨_, rfl⟩
          replace H : (spec_l9DrawOps.l1 k2 x3_1 x4_1 y118 (wrap64 (x6_2 + 1)) s0_0 t116 t117) = some (r1, r2, r3) := yH H hy118
          have Ny118 := aM hy118
          clear hy118
          have H' := aM H
          clear H
          go_wp2_with (first | (refine goesM 42 18 Tryd.func42 #[.pointer (some ⟨g, 0, none⟩), .int .i64 4] ?_; refine (spec_l1Below.calls g s0_0 x1001_2 x1002_2 4 t110 t111 t112 w0 _ (by repeat (first | (with_reducible first | exact HI0.out | apply IsS72.alloc | apply IsS72.drewN | apply IsS72.drew | apply IsS72.set_1 | apply IsS72.set_2) | exact HI0.out)) (by repeat (first | (with_reducible first | exact HB.out | apply below_alloc | apply pw_below_drewN | apply below_drew1 | refine below_set ?_ (IsS72.ge HI0.out)) | exact HB.out)) A9.out).mono ?_; rintro e wv1 ⟨rfl, hi, hb, hk⟩; refine ⟨_, rfl, ?_⟩; replace HO_y1 := aM (Kd.S_mono (Kd.S_keep (IsS72.apartS (show IsS72 w0 _ g s0_0 x1001_2 x1002_2 from (i72 HI0.out)) (sX HO_y1.out) (by decide)) hk (fun _ h => h.2)) (fun _ h => h.1)); replace HO_w1 := aM (Kd.R_mono (Kd.R_keep (IsS72.apart (show IsS72 w0 _ g s0_0 x1001_2 x1002_2 from (i72 HI0.out)) (rX HO_w1.out) (by decide)) hk (fun _ h => h.2)) (fun _ h => h.1)); replace HK := aM (KeepBut.trans (kX HK.out) hk (.inl rfl)); replace HB := aM (hb); replace HI0 := aM (hi); clear hb hk hi) | (refine goesM 45 25 Tryd.func45 #[.pointer (some ⟨g, 0, none⟩)] ?_; refine (spec_l4DrawRight.calls k2 g s0_0 t111 t112 t113 t114 t115 t116 t117 w0 _ (by repeat (first | (with_reducible first | exact HI0.out | apply IsS72.alloc | apply IsS72.drewN | apply IsS72.drew | apply IsS72.set_1 | apply IsS72.set_2) | exact HI0.out)) (by repeat (first | (with_reducible first | exact HB.out | apply below_alloc | apply pw_below_drewN | apply below_drew1 | refine below_set ?_ (IsS72.ge HI0.out)) | exact HB.out)) A11.out).mono ?_; rintro e wv2 ⟨rfl, hi, hb, hk⟩; refine ⟨_, rfl, ?_⟩; replace HO_y1 := aM (Kd.S_mono (Kd.S_keep (IsS72.apartS (show IsS72 w0 _ g s0_0 t111 t112 from (i72 HI0.out)) (sX HO_y1.out) (by decide)) hk (fun _ h => h.2)) (fun _ h => h.1)); replace HO_w1 := aM (Kd.R_mono (Kd.R_keep (IsS72.apart (show IsS72 w0 _ g s0_0 t111 t112 from (i72 HI0.out)) (rX HO_w1.out) (by decide)) hk (fun _ h => h.2)) (fun _ h => h.1)); replace HK := aM (KeepBut.trans (kX HK.out) hk (.inl rfl)); replace HB := aM (hb); replace HI0 := aM (hi); clear hb hk hi) | ((with_reducible refine gate_builtin (b := .append) (xs := #[.tmp 23, .tmp 26]) rfl ?_); at_builtin; refine Kd.R_append k23 w.heap.size rfl (.tmp 23) (.tmp 26) 28 23 (.agg #[(.int .i64 0), (.int .i64 0), (.int .i64 0)]) 24 rfl Tryd.underlying28 info23 rfl (by decide) (by omega) u5 x5_2 (⟨t113, t114, t115⟩ : S23) [.int .i64 t113, .int .i64 t114, .int .i64 t115] (fun _ => True) (fun _ => False) rfl rfl ?aP (fun _ hk => hk.elim) ?aF ?aO (Below.refl _ _) ?aS ?aL ?_; (case aP => exact k23_mkM _ _ _ (⟨t113, t114, t115⟩ : S23)); (case aF => exact (fun _ _ => trivial)); (case aO => exact (rX HO_w1.out)); (case aS => exact (keep_size (w := w) (g := g) (row := none) (kX HK.out))); (case aL => have := LMc12.out; omega); intro vv1 wv3 ho hb hg hat; rw [← Ny118.out] at ho; have HOv1 := aM (ho); replace HO_y1 := aM (Kd.S_after (ok := (fun _ => True)) (by (with_reducible repeat (first | apply Kd.S_alloc | apply Kd.S_drewN | apply Kd.S_drew)); exact Kd.S_mono HO_y1.out (fun _ hk => ⟨trivial, hk⟩)) hg hat); replace HB := aM (below_weaken (hY HB.out (IsS72.ge HI0.out)) HL.out hb); replace HI0 := aM (IsS72.grown (i72 HI0.out) hg (IsS72.own_ne HI0.out HO_w1.out (by decide))); replace HK := aM (KeepBut.trans (kX HK.out) (KeepBut.of_grown hg g) (Kd.R_base2 HO_w1.out)); clear HO_w1; clear ho hb hg hat))
          go_roundg k2
          case measure => have := HKy1.out; have := HKw1.out; omega
          case rel => exact ⟨(y118), (wrap64 (x6_2 + 1)), (t116), (t117), rS, H', ⟨by have := HKy1.out; have := HKw1.out; omega⟩, ⟨by (with_reducible repeat (first | apply Kd.S_alloc | apply Kd.S_drewN | apply Kd.S_drew)); exact Kd.S_mono HO_y1.out (fun _ hk => hk.2)⟩, ⟨(rX HOv1.out)⟩, ⟨(i72 HI0.out)⟩, ⟨(kX HK.out)⟩, ⟨(hY HB.out (IsS72.ge HI0.out))⟩⟩
def spec_DrawProgOf.f (k : Nat) (l0 : List Int) : Option (ByteArray) := (spec_l1New.f k l0).bind fun bt101 => ((spec_l9DrawOps.f k bt101.1 bt101.2.1 bt101.2.2).bind fun bt105 => (if 0 < (bt105.1.length : Int) then ((spec_ProgText.f k (rd_L4 bt105.1 0)).bind fun t111 => ((spec_l1Below.f bt101.1 bt105.2.1 bt105.2.2 6).bind fun bt112 => (if bt112.1 = 0 then (if t111.size + 1 ≤ 9223372036854775807 then (some (t111 ++ (⟨#[59]⟩ : ByteArray))) else (none)) else (if bt112.1 = 1 then (some (⟨#[]⟩ : ByteArray)) else (if bt112.1 = 2 then (if t111.size + 1 ≤ 9223372036854775807 then (if (t111 ++ (⟨#[59]⟩ : ByteArray)).size + t111.size ≤ 9223372036854775807 then (if ((t111 ++ (⟨#[59]⟩ : ByteArray)) ++ t111).size + 1 ≤ 9223372036854775807 then (if (((t111 ++ (⟨#[59]⟩ : ByteArray)) ++ t111) ++ (⟨#[59]⟩ : ByteArray)).size + t111.size ≤ 9223372036854775807 then (some ((((t111 ++ (⟨#[59]⟩ : ByteArray)) ++ t111) ++ (⟨#[59]⟩ : ByteArray)) ++ t111)) else (none)) else (none)) else (none)) else (none)) else (some t111)))))) else (none)))
set_option maxHeartbeats 8000000 in
set_option maxRecDepth 100000 in
theorem spec_DrawProgOf.calls (k : Nat) (A0 : Option Addr) (c0 : Nat) (l0 : List Int) (r : ByteArray) (w : World) (hr0 : Kd.C (Kd.int .u8) w A0 l0.length l0) (hc0 : l0.length ≤ c0) (h : spec_DrawProgOf.f k l0 = some r) :
    Calls Tryd.prog 19 #[.slice A0 l0.length c0] w fun e w' => e = .returned (.string r) ∧ Below w.heap.size w w' := by
  have HR0 := aM hr0
  have HC0 := aM hc0
  clear hr0 hc0
  have HB := aM (Below.refl w.heap.size w)
  have H := h
  unfold spec_DrawProgOf.f at H
  clear h
  replace H := bE H; obtain ⟨⟨t101, t102, t103⟩, A2, H⟩ := H
  try dsimp only at H
  replace H := bE H; obtain ⟨⟨t105, t108, t109⟩, A3, H⟩ := H
  try dsimp only at H
  replace H := ifP H; obtain ⟨c4, H⟩ := H
  have c4b0 := decide_eq_true c4
  have c4b1 : decide (0 < t105.length) = true := decide_eq_true (by omega)
  clear c4
  replace H := bE H; obtain ⟨t111, A5, H⟩ := H
  replace H := bE H; obtain ⟨⟨t112, t113, t114⟩, A6, H⟩ := H
  try dsimp only at H
  go_enter Tryd.func19, Tryd.ntmps19
  go_wp2_with (first | (refine goesM 36 6 Tryd.func36 #[.slice A0 l0.length c0] ?_; refine (spec_l1New.calls k _ _ l0 t101 t102 t103 w _ (by repeat (first | (with_reducible first | exact HB.out | apply below_alloc | apply pw_below_drewN | apply below_drew1) | exact HB.out)) HR0.out HC0.out A2.out).mono ?_; rintro e wz1 ⟨gz1, rfl, hi, hb, hbz1⟩; refine ⟨_, rfl, ?_⟩; have HIz1 := aM (hi); replace HB := aM (hb); clear hb hbz1 hi) | (refine goesM 41 8 Tryd.func41 #[.pointer (some ⟨gz1, 0, none⟩)] ?_; refine (spec_l9DrawOps.calls k gz1 t101 t102 t103 t105 t108 t109 w _ (by repeat (first | (with_reducible first | exact HIz1.out | apply IsS72.alloc | apply IsS72.drewN | apply IsS72.drew | apply IsS72.set_1 | apply IsS72.set_2) | exact HIz1.out)) (by repeat (first | (with_reducible first | exact HB.out | apply below_alloc | apply pw_below_drewN | apply below_drew1 | refine below_set ?_ (IsS72.ge HIz1.out)) | exact HB.out)) A3.out).mono ?_; rintro e wz2 ⟨vz1, rfl, hoz1, hi, hb, hk⟩; refine ⟨_, rfl, ?_⟩; have HOz1 := aM (Kd.S_lower hoz1 (below_size (hY HB.out (IsS72.ge HIz1.out)))); replace HB := aM (hb); replace HIz1 := aM (hi); clear hb hk hi hoz1; obtain ⟨Aoz1, coz1, eoz1⟩ := Kd.S_slice HOz1.out; subst eoz1; have pz1 : 0 ≤ (0 : Int) := (by omega); have qz1 : 0 < (t105.length : Int) := odA; obtain ⟨adz1, Az1, cz1, ez1, hxz1, hlz1, hiz1⟩ := at_L4 (Kd.S_reads' HOz1.out).2.2 0 pz1 qz1; cases ez1; obtain ⟨cez1, hcez1, hMez1, hccz1⟩ := Kd.S_get HOz1.out [] 0 pz1 (by first | exact qz1 | exact odA | (have e_ := (Kd.S_reads' HOz1.out).1; omega)); obtain ⟨vez1, rfl, gez1⟩ := hMez1; have hvz1 := hccz1 0 _ rfl; rw [Nat.add_zero, show ((Kd.slice 23 k23)).sz = 1 from rfl, Nat.mul_one] at hvz1; replace hvz1 := Option.some.inj (hvz1.symm.trans hxz1); rw [hvz1] at gez1; have HLz1 := aM (show Kd.R k23 23 _ _ _ _ (rd_L4 t105 0) from gez1); clear hvz1 gez1; clear hccz1 hcez1; have qiz1 : (0 < t105.length) = True := eq_true (by omega); (try rw [show ((0 : Int)).toNat = 0 from rfl] at hxz1); (try rw [Addr.add_zero'] at hxz1); have HRz1 := aM hiz1; have HCz1 := aM hlz1; clear hiz1 hlz1; replace pz1 := eq_true pz1; replace qz1 := eq_true qz1) | (refine goesM 23 11 Tryd.func23 #[.slice Az1 (rd_L4 t105 0).length cz1] ?_; refine (spec_ProgText.calls k _ _ (rd_L4 t105 0) t111 _ (by repeat (first | exact (cX HRz1.out) | (with_reducible refine Kd.C_alloc ?_ _) | (with_reducible refine Kd.C_drewN ?_ _) | (with_reducible refine Kd.C_drew ?_))) HCz1.out A5.out).mono ?_; rintro e wz3 ⟨rfl, hb⟩; refine ⟨_, rfl, ?_⟩; replace HOz1 := aT HOz1 hb; replace HLz1 := aQ HLz1 hb; replace HRz1 := aM (Kd.C_below (cX HRz1.out) hb); replace HB := aM (below_step (hY HB.out (IsS72.ge HIz1.out)) hb); replace HIz1 := aM (IsS72.below (i72 HIz1.out) hb); clear hb) | (refine goesM 42 13 Tryd.func42 #[.pointer (some ⟨gz1, 0, none⟩), .int .i64 6] ?_; refine (spec_l1Below.calls gz1 t101 t108 t109 6 t112 t113 t114 w _ (by repeat (first | (with_reducible first | exact HIz1.out | apply IsS72.alloc | apply IsS72.drewN | apply IsS72.drew | apply IsS72.set_1 | apply IsS72.set_2) | exact HIz1.out)) (by repeat (first | (with_reducible first | exact HB.out | apply below_alloc | apply pw_below_drewN | apply below_drew1 | refine below_set ?_ (IsS72.ge HIz1.out)) | exact HB.out)) A6.out).mono ?_; rintro e wz4 ⟨rfl, hi, hb, hk⟩; refine ⟨_, rfl, ?_⟩; replace HOz1 := aM (Kd.S_mono (Kd.S_keep (IsS72.apartS (show IsS72 w _ gz1 t101 t108 t109 from (i72 HIz1.out)) (sX HOz1.out) (by decide)) hk (fun _ h => h.2)) (fun _ h => h.1)); replace HLz1 := aM (Kd.R_mono (Kd.R_keep (IsS72.apart (show IsS72 w _ gz1 t101 t108 t109 from (i72 HIz1.out)) (rX HLz1.out) (by decide)) hk (fun _ h => h.2)) (fun _ h => h.1)); replace HB := aM (hb); replace HIz1 := aM (hi); clear hb hk hi; refine Stop.out ?_))
  refine ⟨?_⟩
  by_cases c7 : t112 = 0
  · rw [if_pos c7] at H
    obtain ⟨c7b0, c7b1⟩ := eqT c7
    clear c7
    replace H := ifP H; obtain ⟨c8, H⟩ := H
    have c8b0 := eq_true c8
    have c8b1 := decide_eq_true c8
    try have c8b2 : (9223372036854775807 < t111.size + 1) = False := eq_false (Nat.not_lt.2 c8)
    obtain rfl := sI H
    go_wp2
    go_ret
    exact ⟨rE, (hY HB.out (IsS72.ge HIz1.out))⟩
  rw [if_neg c7] at H
  obtain ⟨c7b0, c7b1⟩ := eqF c7
  by_cases c14 : t112 = 1
  · rw [if_pos c14] at H
    obtain ⟨c14b0, c14b1⟩ := eqT c14
    clear c14
    obtain rfl := sI H
    go_wp2
    go_ret
    exact ⟨rE, (hY HB.out (IsS72.ge HIz1.out))⟩
  rw [if_neg c14] at H
  obtain ⟨c14b0, c14b1⟩ := eqF c14
  by_cases c20 : t112 = 2
  case neg =>
    rw [if_neg c20] at H
    obtain ⟨c20b0, c20b1⟩ := eqF c20
    obtain rfl := sI H
    go_wp2
    go_ret
    exact ⟨rE, (hY HB.out (IsS72.ge HIz1.out))⟩
  rw [if_pos c20] at H
  obtain ⟨c20b0, c20b1⟩ := eqT c20
  clear c20
  replace H := ifP H; obtain ⟨c21, H⟩ := H
  have c21b0 := eq_true c21
  have c21b1 := decide_eq_true c21
  try have c21b2 : (9223372036854775807 < t111.size + 1) = False := eq_false (Nat.not_lt.2 c21)
  replace H := ifP H; obtain ⟨c22, H⟩ := H
  have c22b0 := eq_true c22
  have c22b1 := decide_eq_true c22
  try have c22b2 : (9223372036854775807 < (t111 ++ (⟨#[59]⟩ : ByteArray)).size + t111.size) = False := eq_false (Nat.not_lt.2 c22)
  (try (have c22b3 : t111.size + 1 + t111.size ≤ 9223372036854775807 := (by have h_ := c22; simp only [ByteArray.size_append, strOfNums_size] at h_; exact h_); have c22b4 := eq_true c22b3; (try have c22b5 := decide_eq_true c22b3); (try have c22b6 := eq_false (Nat.not_lt.2 c22b3))))
  replace H := ifP H; obtain ⟨c23, H⟩ := H
  have c23b0 := eq_true c23
  have c23b1 := decide_eq_true c23
  try have c23b2 : (9223372036854775807 < ((t111 ++ (⟨#[59]⟩ : ByteArray)) ++ t111).size + 1) = False := eq_false (Nat.not_lt.2 c23)
  (try (have c23b3 : t111.size + 1 + t111.size + 1 ≤ 9223372036854775807 := (by have h_ := c23; simp only [ByteArray.size_append, strOfNums_size] at h_; exact h_); have c23b4 := eq_true c23b3; (try have c23b5 := decide_eq_true c23b3); (try have c23b6 := eq_false (Nat.not_lt.2 c23b3))))
  replace H := ifP H; obtain ⟨c24, H⟩ := H
  have c24b0 := eq_true c24
  have c24b1 := decide_eq_true c24
  try have c24b2 : (9223372036854775807 < (((t111 ++ (⟨#[59]⟩ : ByteArray)) ++ t111) ++ (⟨#[59]⟩ : ByteArray)).size + t111.size) = False := eq_false (Nat.not_lt.2 c24)
  (try (have c24b3 : t111.size + 1 + t111.size + 1 + t111.size ≤ 9223372036854775807 := (by have h_ := c24; simp only [ByteArray.size_append, strOfNums_size] at h_; exact h_); have c24b4 := eq_true c24b3; (try have c24b5 := decide_eq_true c24b3); (try have c24b6 := eq_false (Nat.not_lt.2 c24b3))))
  obtain rfl := sI H
  go_wp2
  go_ret
  exact ⟨rE, (hY HB.out (IsS72.ge HIz1.out))⟩
def spec_RowsNew.f  : Option (List Int × Int) := if 4 ≤ 35184372088832 then (some ((List.replicate 4 0), 0)) else (none)
set_option maxHeartbeats 8000000 in
set_option maxRecDepth 100000 in
theorem spec_RowsNew.calls  (r1 : List Int) (r2 : Int) (w : World) (h : spec_RowsNew.f  = some (r1, r2)) :
    Calls Tryd.prog 60 #[] w fun e w' => ∃ v0_ : Value, e = .returned (.agg #[v0_, .int .i64 r2]) ∧ Kd.R (Kd.int .i64) 3 w' w.heap.size (fun _ => True) v0_ r1 ∧ Below w.heap.size w w' := by
  have hu64 := Tryd.underlying64
  have HB := aM (Below.refl w.heap.size w)
  have H := h
  unfold spec_RowsNew.f at H
  clear h
  replace H := ifP H; obtain ⟨c1, H⟩ := H
  have c1b0 := eq_true c1
  have c1b1 := decide_eq_true c1
  clear c1
  obtain ⟨y102, hy102⟩ : ∃ y_ : List Int, y_ = (List.replicate 4 0) := ⟨_, rfl⟩
  replace H : (some (y102, 0)) = some (r1, r2) := yH H hy102
  have Ny102 := aM hy102
  clear hy102
  simp only [Option.some.injEq, Prod.mk.injEq] at H
  obtain ⟨rfl, rfl⟩ := H
  go_enter Tryd.func60, Tryd.ntmps60
  go_wp2_with (first | (refine boxE 0 #[.slice none 0 0, .int .i64 0] 64 ?_; intro gbz1 hg wz1 hbox hb; have BKz1 := aM (hbox); have GWz1 := aG hg HB; have GEz1 := aG hg HB; replace HB := aS HB hb; clear hb hbox hg) | ((with_reducible refine gate_dst (N := 1) rfl ?_); refine Kd.R_make (Kd.int .i64) _ 3 rfl (N := 1) rfl 39 _ _ rfl 4 rfl rfl Tryd.underlying39 (.int .i64 0) 8 info3 rfl (by decide) (by omega) 0 (ok := fun _ => True) (okp := fun _ => True) rfl (fun _ hk => hk) trivial (by omega) (by omega) (Below.refl _ _) (Nat.le_refl _) ?_; intro vz1 wz2 hoz1 hb hg_ hnew_; clear hg_ hnew_; (first | rw [← Ny102.out] at hoz1 | (simp only [Int.reduceToNat] at hoz1; rw [← Ny102.out] at hoz1)); have HOz1 := aM (Kd.R_lower hoz1 (below_size (hX HB.out))); replace BKz1 := aB BKz1 hb; replace HB := aS HB hb; clear hb hoz1; obtain ⟨Aoz1, coz1, eoz1⟩ := Kd.R_slice HOz1.out; subst eoz1; obtain ⟨hczz1, hczz2, hfzz1, hfzz2⟩ := cZ2 BKz1.out))
  refine bodyPost_ret (results_cell_row rfl _ _ gbz1 64 #[.slice Aoz1 y102.length coz1, .int .i64 0] (0, 0) _ rfl (bP BKz1.out) Tryd.underlying64 rfl (by kernel_rfl)) rfl ?_
  exact ⟨_, rE, (rT (h := by exact Kd.R_mono (Kd.R_far (p := ⟨gbz1, 1, none⟩) (Kd.R_far (p := ⟨gbz1, 0, none⟩) (Kd.R_types HOz1.out BKz1.out (by decide)) (fun _ hk => hk.2) (.slice Aoz1 y102.length coz1)) (fun _ hk => hk.2) (.int .i64 0)) (fun _ hk => trivial))), (hX HB.out)⟩
def spec_KeyOf.l0 : Nat → Int → Int → List Int → Int → Option (Int)
  | 0, _, _, _, _ => none
  | k + 1, x1, x5, x102000, x102001 => if x5 < (x102000.length : Int) then (if 0 ≤ x5 then (if (rd x102000 x5) = x1 then (some x5) else (spec_KeyOf.l0 k x1 (wrap64 (x5 + 1)) x102000 x102001)) else (none)) else (some (-1))
def spec_KeyOf.f (k : Nat) (l0_0 : List Int) (a0_1 : Int) (a1 : Int) : Option (Int) := spec_KeyOf.l0 k a1 0 l0_0 a0_1
set_option maxHeartbeats 8000000 in
set_option maxRecDepth 100000 in
theorem spec_KeyOf.calls (k : Nat) (A0_0 : Option Addr) (c0_0 : Nat) (l0_0 : List Int) (a0_1 : Int) (a1 : Int) (r : Int) (w : World) (hr0_0 : Kd.C (Kd.int .i64) w A0_0 l0_0.length l0_0) (hc0_0 : l0_0.length ≤ c0_0) (h : spec_KeyOf.f k l0_0 a0_1 a1 = some r) :
    Calls Tryd.prog 61 #[.agg #[.slice A0_0 l0_0.length c0_0, .int .i64 a0_1], .int .i64 a1] w fun e w' => e = .returned (.int .i64 r) ∧ Below w.heap.size w w' := by
  have hu64 := Tryd.underlying64
  have HR0_0 := aM hr0_0
  have HC0_0 := aM hc0_0
  clear hr0_0 hc0_0
  have HB := aM (Below.refl w.heap.size w)
  have H := h
  unfold spec_KeyOf.f at H
  clear h
  have H' := aM H
  clear H
  go_enter Tryd.func61, Tryd.ntmps61
  go_wp2_with (first | (refine boxE 2 #[.slice A0_0 l0_0.length c0_0, .int .i64 a0_1] 64 ?_; intro gbz1 hg wz1 hbox hb; have BKz1 := aM (hbox); have GWz1 := aG hg HB; have GEz1 := aG hg HB; replace HB := aS HB hb; clear hb hbox hg))
  go_loopg [5] k (fun kq v5 w' => ∃ (x5_1 : Int), v5 = .int .i64 x5_1 ∧ Aside0 (spec_KeyOf.l0 kq a1 x5_1 l0_0 a0_1 = some r) ∧ Aside0 (kq ≤ k) ∧ Aside0 (w'.heap[gbz1]? = some (.cells #[(.slice A0_0 l0_0.length c0_0), .int .i64 a0_1] 64 (0, 0))) ∧ Aside0 (Below w.heap.size w w'))
  case atStart => exact ⟨(0), rS, H', ⟨Nat.le_refl _⟩, ⟨(bX BKz1.out)⟩, ⟨(hX HB.out)⟩⟩
  case round =>
    clear H'
    try clear p2
    obtain ⟨x5_1, rfl, HA, HKy1, BKz1, HB⟩ := hrel
    cases gk with
    | zero => exact absurd HA.out (by simp [spec_KeyOf.l0])
    | succ k1 =>
      have H := HA.out
      clear HA
      simp only [spec_KeyOf.l0] at H
      by_cases c4 : x5_1 < (l0_0.length : Int)
      case neg =>
        rw [if_neg c4] at H
        have c4b0 := decide_eq_false c4
        clear c4
        obtain rfl := sI H
        obtain ⟨hczx1, hczx2, hfzx1, hfzx2⟩ := cZ2 BKz1.out
        go_wp2
        go_ret
        exact ⟨rE, (hX HB.out)⟩
      rw [if_pos c4] at H
      have c4b0 := decide_eq_true c4
      clear c4
      replace H := ifP H; obtain ⟨c5, H⟩ := H
      have c5b0 := decide_eq_true c5
      clear c5
      by_cases c6 : (rd l0_0 x5_1) = a1
      · rw [if_pos c6] at H
        obtain ⟨c6b0, c6b1⟩ := eqT c6
        clear c6
        obtain rfl := sI H
        obtain ⟨hczx1, hczx2, hfzx1, hfzx2⟩ := cZ2 BKz1.out
        obtain ⟨adx1, ex1, px1, qx1, hxx1⟩ := at_ic HR0_0 HB x5_1
        cases ex1
        go_wp2
        go_ret
        exact ⟨rE, (hX HB.out)⟩
      rw [if_neg c6] at H
      obtain ⟨c6b0, c6b1⟩ := eqF c6
      have H' := aM H
      clear H
      obtain ⟨hczx1, hczx2, hfzx1, hfzx2⟩ := cZ2 BKz1.out
      obtain ⟨adx1, ex1, px1, qx1, hxx1⟩ := at_ic HR0_0 HB x5_1
      cases ex1
      go_wp2
      go_roundg k1
      case measure => have := HKy1.out; omega
      case rel => exact ⟨(wrap64 (x5_1 + 1)), rS, H', ⟨by have := HKy1.out; omega⟩, ⟨(bX BKz1.out)⟩, ⟨(hX HB.out)⟩⟩
def spec_l3DrawRight.l0 : Nat → Int → List Int → Int → Int → List Int → Int → Option (List Int × Int × Int × Int)
  | 0, _, _, _, _, _, _ => none
  | k + 1, x4, x1000, x1001, x1002, x107000, x107001 => if x4 < 4 then ((spec_l1Below.f x1000 x1001 x1002 7).bind fun bt113 => ((spec_KeyOf.f k x107000 x107001 bt113.1).bind fun t116 => (if t116 < 0 then (if 0 ≤ x4 then (if x4 < (x107000.length : Int) then (spec_l3DrawRight.l0 k (wrap64 (x4 + 1)) x1000 bt113.2.1 bt113.2.2 (x107000.set (x4 : Int).toNat bt113.1) x107001) else (none)) else (none)) else (spec_l3DrawRight.l0 k (wrap64 (x4 + 1)) x1000 bt113.2.1 bt113.2.2 x107000 x107001)))) else ((spec_l1PickInt.f x1000 x1001 x1002 (([0, 0, 1, 3, 5] : List Int))).bind fun bt110 => (some (x107000, bt110.1, bt110.2.1, bt110.2.2)))
def spec_l3DrawRight.f (k : Nat) (s0_0 : List Int) (s0_1 : Int) (s0_2 : Int) : Option (List Int × Int × Int × Int) := (spec_RowsNew.f).bind fun bt102 => (spec_l3DrawRight.l0 k 0 s0_0 s0_1 s0_2 bt102.1 bt102.2)
set_option maxHeartbeats 8000000 in
set_option maxRecDepth 100000 in
theorem spec_l3DrawRight.calls (k : Nat) (g : Nat) (s0_0 : List Int) (s0_1 : Int) (s0_2 : Int) (r1 : List Int) (r2 : Int) (r3 : Int) (r4 : Int) (w0 w : World) (hI : IsS72 w0 w g s0_0 s0_1 s0_2) (hB : Below w0.heap.size w0 w) (h : spec_l3DrawRight.f k s0_0 s0_1 s0_2 = some (r1, r2, r3, r4)) :
    Calls Tryd.prog 43 #[.pointer (some ⟨g, 0, none⟩)] w fun e w' => ∃ v0_ : Value, e = .returned (.agg #[v0_, .int .i64 r2]) ∧ Kd.R (Kd.int .i64) 3 w' w.heap.size (fun _ => True) v0_ r1 ∧ IsS72 w0 w' g s0_0 r3 r4 ∧ Below w0.heap.size w0 w' ∧ KeepBut w w' g none := by
  have hu64 := Tryd.underlying64
  have HI0 := aM hI
  have HK := aM (KeepBut.refl w g none)
  have HL := aM hB.size
  clear hI
  have HW0 := aM hB.size
  have HB := aM hB
  clear hB
  have H := h
  unfold spec_l3DrawRight.f at H
  clear h
  replace H := bE H; obtain ⟨⟨t102, t105⟩, A2, H⟩ := H
  try dsimp only at H
  have H' := aM H
  clear H
  go_enter Tryd.func43, Tryd.ntmps43
  go_wp2_with (first | (refine boxE 2 #[.slice none 0 0, .int .i64 0] 64 ?_; intro gbz1 hg wz1 hbox hb; have BKz1 := aM (hbox); have GWz1 := aM ((by rw [hg]; exact (keep_size (w := w) (g := g) (row := none) (kX HK.out)) : w.heap.size ≤ gbz1)); have GEz1 := aM ((Nat.le_trans HW0.out (by rw [hg]; exact (keep_size (w := w) (g := g) (row := none) (kX HK.out)) : w.heap.size ≤ gbz1) : w0.heap.size ≤ gbz1)); have NBz1 := aM ((by rw [hg]; exact Nat.ne_of_lt (IsS72.lt (show IsS72 w0 _ g s0_0 s0_1 s0_2 from (i72 HI0.out))) : g ≠ gbz1)); have NBz2 := aM ((by rw [hg]; exact Nat.ne_of_gt (IsS72.lt (show IsS72 w0 _ g s0_0 s0_1 s0_2 from (i72 HI0.out))) : gbz1 ≠ g)); replace HK := aM (KeepBut.trans (kX HK.out) (KeepBut.of_below hb g none) (.inl rfl)); replace HB := aM (below_step (hY HB.out (IsS72.ge HI0.out)) hb); replace HI0 := aM (IsS72.below (i72 HI0.out) hb); clear hb hbox hg) | (refine goesM 60 6 Tryd.func60 #[] ?_; refine (spec_RowsNew.calls _ _ _ A2.out).mono ?_; rintro e wz2 ⟨vz1, rfl, hoz1, hb⟩; refine ⟨_, rfl, ?_⟩; have HOz1 := aM (Kd.R_lower hoz1 (keep_size (w := w) (g := g) (row := none) (kX HK.out))); replace BKz1 := aB BKz1 hb; replace HK := aM (KeepBut.trans (kX HK.out) (KeepBut.of_below hb g none) (.inl rfl)); replace HB := aM (below_step (hY HB.out (IsS72.ge HI0.out)) hb); replace HI0 := aM (IsS72.below (i72 HI0.out) hb); clear hb hoz1) | (refine boxE 3 #[.slice none 0 0, .int .i64 0] 64 ?_; intro gbz2 hg wz3 hbox hb; have BKz2 := aM (hbox); have GWz2 := aM ((by rw [hg]; exact (keep_size (w := w) (g := g) (row := none) (kX HK.out)) : w.heap.size ≤ gbz2)); have GEz2 := aM ((Nat.le_trans HW0.out (by rw [hg]; exact (keep_size (w := w) (g := g) (row := none) (kX HK.out)) : w.heap.size ≤ gbz2) : w0.heap.size ≤ gbz2)); have NBz3 := aL hg BKz1; have NBz4 := aR hg BKz1; have NBz5 := aM ((by rw [hg]; exact Nat.ne_of_lt (IsS72.lt (show IsS72 w0 _ g s0_0 s0_1 s0_2 from (i72 HI0.out))) : g ≠ gbz2)); have NBz6 := aM ((by rw [hg]; exact Nat.ne_of_gt (IsS72.lt (show IsS72 w0 _ g s0_0 s0_1 s0_2 from (i72 HI0.out))) : gbz2 ≠ g)); replace HOz1 := aQ HOz1 hb; replace BKz1 := aB BKz1 hb; replace HK := aM (KeepBut.trans (kX HK.out) (KeepBut.of_below hb g none) (.inl rfl)); replace HB := aM (below_step (hY HB.out (IsS72.ge HI0.out)) hb); replace HI0 := aM (IsS72.below (i72 HI0.out) hb); clear hb hbox hg; obtain ⟨Aoz1, coz1, eoz1⟩ := Kd.R_slice HOz1.out; subst eoz1; have hnbz1 := NBz4.out; have hncz1 := NBz3.out; have hnbz2 := NBz6.out; have hncz2 := NBz5.out; obtain ⟨hczz1, hczz2, hfzz1, hfzz2⟩ := cZ2 BKz2.out))
  go_loopg [4] k (fun kq v4 w' => ∃ (x4_1 : Int) (x1001_1 : Int) (x1002_1 : Int) (x107000_1 : List Int) (u107000 : Value), v4 = .int .i64 x4_1 ∧ Aside0 (spec_l3DrawRight.l0 kq x4_1 s0_0 x1001_1 x1002_1 x107000_1 t105 = some (r1, r2, r3, r4)) ∧ Aside0 (kq ≤ k) ∧ Aside0 (Kd.R (Kd.int .i64) 3 w' w.heap.size (fun _ => True) u107000 x107000_1) ∧ Aside0 (w'.heap[gbz1]? = some (.cells #[(.slice none 0 0), .int .i64 0] 64 (0, 0))) ∧ Aside0 (w'.heap[gbz2]? = some (.cells #[u107000, .int .i64 t105] 64 (0, 0))) ∧ Aside0 (IsS72 w0 w' g s0_0 x1001_1 x1002_1) ∧ Aside0 (KeepBut w w' g none) ∧ Aside0 (Below w0.heap.size w0 w'))
  case atStart => exact ⟨(0), (s0_1), (s0_2), (t102), (.slice Aoz1 t102.length coz1), rS, H', ⟨Nat.le_refl _⟩, ⟨(rT (h := by exact Kd.R_mono (Kd.R_far (p := ⟨gbz2, 1, none⟩) (Kd.R_far (p := ⟨gbz2, 0, none⟩) (Kd.R_types HOz1.out BKz2.out (by decide)) (fun _ hk => hk.2) (.slice Aoz1 t102.length coz1)) (fun _ hk => hk.2) (.int .i64 t105)) (fun _ hk => trivial)))⟩, ⟨(bF BKz1.out)⟩, ⟨(bP BKz2.out)⟩, ⟨(i72 HI0.out)⟩, ⟨(kX HK.out)⟩, ⟨(hY HB.out (IsS72.ge HI0.out))⟩⟩
  case round =>
    clear H'
    try clear p2
    try clear hczz1 hczz2 hfzz1 hfzz2
    obtain ⟨x4_1, x1001_1, x1002_1, x107000_1, u107000, rfl, HA, HKy1, HO_y1, BKz1, BKz2, HI0, HK, HB⟩ := hrel
    cases gk with
    | zero => exact absurd HA.out (by simp [spec_l3DrawRight.l0])
    | succ k1 =>
      have H := HA.out
      clear HA
      simp only [spec_l3DrawRight.l0] at H
      by_cases c10 : x4_1 < 4
      case neg =>
        rw [if_neg c10] at H
        have c10b0 := decide_eq_false c10
        clear c10
        obtain ⟨y107, hy107⟩ : ∃ y_ : List Int, y_ = (([0, 0, 1, 3, 5] : List Int)) := ⟨_, rfl⟩
        replace H : ((spec_l1PickInt.f s0_0 x1001_1 x1002_1 y107).bind fun bt110 => (some (x107000_1, bt110.1, bt110.2.1, bt110.2.2))) = some (r1, r2, r3, r4) := yH H hy107
        have Ny107 := aM hy107
        clear hy107
        replace H := bE H; obtain ⟨⟨t110, t111, t112⟩, A32, H⟩ := H
        try dsimp only at H
        simp only [Option.some.injEq, Prod.mk.injEq] at H
        obtain ⟨rfl, rfl, rfl, rfl⟩ := H
        go_wp2_with (first | ((with_reducible refine gate_dst (N := 23) rfl ?_); refine Kd.R_lit (Kd.int .i64) _ 3 ?hg (N := 23) ?hd (xs := ([0, 0, 1, 3, 5] : List Int)) (inner := [.int .i64 0, .int .i64 0, .int .i64 1, .int .i64 3, .int .i64 5]) (ok := fun _ => True) (okp := fun _ => True) ?hr ?hp (fun _ hk => hk) trivial (Below.refl _ _) (Nat.le_refl _) (by simp) ?_; (case hd => rfl); (case hg => rfl); (case hr => first | (go_simp; done) | (go_simp; rfl)); (case hp => exact (Reps.one (show Kd.M (Kd.int .i64) _ _ _ 0 [.int .i64 0] from rfl) (Reps.one (show Kd.M (Kd.int .i64) _ _ _ 0 [.int .i64 0] from rfl) (Reps.one (show Kd.M (Kd.int .i64) _ _ _ 1 [.int .i64 1] from rfl) (Reps.one (show Kd.M (Kd.int .i64) _ _ _ 3 [.int .i64 3] from rfl) (Reps.one (show Kd.M (Kd.int .i64) _ _ _ 5 [.int .i64 5] from rfl) (Reps.none _ _))))))); intro vx1 wx1 hox1 hb hg_ hnew_; clear hg_ hnew_; (first | rw [← Ny107.out] at hox1 | (simp only [Int.reduceToNat] at hox1; rw [← Ny107.out] at hox1)); have HOx1 := aM (Kd.R_lower (Kd.R_new' hox1 (Kd.R_lt (rX HO_y1.out))) (keep_size (w := w) (g := g) (row := none) (kX HK.out))); replace HO_y1 := aM (Kd.R_elder' (rX HO_y1.out) (Kd.R_base hox1) hb); replace BKz1 := aB BKz1 hb; replace BKz2 := aB BKz2 hb; replace HK := aM (KeepBut.trans (kX HK.out) (KeepBut.of_below hb g none) (.inl rfl)); replace HB := aM (below_step (hY HB.out (IsS72.ge HI0.out)) hb); replace HI0 := aM (IsS72.below (i72 HI0.out) hb); clear hb hox1; obtain ⟨Aox1, cox1, eox1⟩ := Kd.R_slice HOx1.out; subst eox1) | (refine goesM 62 24 Tryd.func62 #[.pointer (some ⟨g, 0, none⟩), .slice Aox1 y107.length cox1] ?_; refine (spec_l1PickInt.calls g s0_0 x1001_1 x1002_1 _ _ y107 t110 t111 t112 w0 _ (by repeat (first | (with_reducible first | exact HI0.out | apply IsS72.alloc | apply IsS72.drewN | apply IsS72.drew | apply IsS72.set_1 | apply IsS72.set_2 | refine IsS72.far ?_ NBz1.out _ | refine IsS72.far ?_ NBz5.out _) | exact HI0.out)) (by repeat (first | (with_reducible first | exact HB.out | apply below_alloc | apply pw_below_drewN | apply below_drew1 | refine below_set ?_ (IsS72.ge HI0.out) | refine below_set ?_ GEz1.out | refine below_set ?_ GEz2.out) | exact HB.out)) (cX (Kd.R_reads' HOx1.out).2.2) ((Kd.R_reads' HOx1.out).2.1) (by exact far_slice (IsS72.own_ne HI0.out HOx1.out (by decide))) A32.out).mono ?_; rintro e wx2 ⟨rfl, hi, hb, hk⟩; refine ⟨_, rfl, ?_⟩; replace HO_y1 := aM (Kd.R_mono (Kd.R_keep (IsS72.apart (show IsS72 w0 _ g s0_0 x1001_1 x1002_1 from (i72 HI0.out)) (rX HO_y1.out) (by decide)) hk (fun _ h => h.2)) (fun _ h => h.1)); replace BKz1 := aM (KeepBut.blk hk (g' := gbz1) (o := .cells #[.slice none 0 0, .int .i64 0] 64 (0, 0)) (bX BKz1.out) NBz2.out (by simp)); replace BKz2 := aM (KeepBut.blk hk (g' := gbz2) (o := .cells #[u107000, .int .i64 t105] 64 (0, 0)) (bX BKz2.out) NBz6.out (by simp)); replace HOx1 := aM (Kd.R_mono (Kd.R_keep (IsS72.apart (show IsS72 w0 _ g s0_0 x1001_1 x1002_1 from (i72 HI0.out)) (rX HOx1.out) (by decide)) hk (fun _ h => h.2)) (fun _ h => h.1)); replace HK := aM (KeepBut.trans (kX HK.out) hk (.inl rfl)); replace HB := aM (hb); replace HI0 := aM (hi); clear hb hk hi; have hnbx1 := NBz4.out; have hncx1 := NBz3.out; have hnbx2 := NBz6.out; have hncx2 := NBz5.out; obtain ⟨hczx1, hczx2, hfzx1, hfzx2⟩ := cZ2 BKz2.out; obtain ⟨Aox2, cox2, eox2⟩ := Kd.R_slice HO_y1.out; subst eox2; have hnbx3 := NBz2.out; have hncx3 := NBz1.out; obtain ⟨hczx3, hczx4, hfzx3, hfzx4⟩ := cZ2 BKz1.out))
        refine bodyPost_ret (results_cell_row rfl _ _ gbz1 64 #[.slice Aox2 x107000_1.length cox2, .int .i64 t110] (0, 0) _ rfl (bP BKz1.out) Tryd.underlying64 rfl (by kernel_rfl)) rfl ?_
        exact ⟨_, rE, (rT (h := by exact Kd.R_mono (Kd.R_far (p := ⟨gbz1, 1, none⟩) (Kd.R_far (p := ⟨gbz1, 0, none⟩) (Kd.R_far (p := ⟨gbz2, 1, none⟩) (Kd.R_types (Kd.R_types HO_y1.out BKz2.out (by decide)) BKz1.out (by decide)) (fun _ hk => hk.1.2) (.int .i64 t110)) (fun _ hk => hk.2) (.slice Aox2 x107000_1.length cox2)) (fun _ hk => hk.2) (.int .i64 t110)) (fun _ hk => trivial))), (i72 HI0.out), (hY HB.out (IsS72.ge HI0.out)), (kX HK.out)⟩
      rw [if_pos c10] at H
      have c10b0 := decide_eq_true c10
      clear c10
      replace H := bE H; obtain ⟨⟨t113, t114, t115⟩, A11, H⟩ := H
      try dsimp only at H
      replace H := bE H; obtain ⟨t116, A12, H⟩ := H
      go_wp2_with (first | (refine goesM 42 12 Tryd.func42 #[.pointer (some ⟨g, 0, none⟩), .int .i64 7] ?_; refine (spec_l1Below.calls g s0_0 x1001_1 x1002_1 7 t113 t114 t115 w0 _ (by repeat (first | (with_reducible first | exact HI0.out | apply IsS72.alloc | apply IsS72.drewN | apply IsS72.drew | apply IsS72.set_1 | apply IsS72.set_2 | refine IsS72.far ?_ NBz1.out _ | refine IsS72.far ?_ NBz5.out _) | exact HI0.out)) (by repeat (first | (with_reducible first | exact HB.out | apply below_alloc | apply pw_below_drewN | apply below_drew1 | refine below_set ?_ (IsS72.ge HI0.out) | refine below_set ?_ GEz1.out | refine below_set ?_ GEz2.out) | exact HB.out)) A11.out).mono ?_; rintro e wx1 ⟨rfl, hi, hb, hk⟩; refine ⟨_, rfl, ?_⟩; replace HO_y1 := aM (Kd.R_mono (Kd.R_keep (IsS72.apart (show IsS72 w0 _ g s0_0 x1001_1 x1002_1 from (i72 HI0.out)) (rX HO_y1.out) (by decide)) hk (fun _ h => h.2)) (fun _ h => h.1)); replace BKz1 := aM (KeepBut.blk hk (g' := gbz1) (o := .cells #[.slice none 0 0, .int .i64 0] 64 (0, 0)) (bX BKz1.out) NBz2.out (by simp)); replace BKz2 := aM (KeepBut.blk hk (g' := gbz2) (o := .cells #[u107000, .int .i64 t105] 64 (0, 0)) (bX BKz2.out) NBz6.out (by simp)); replace HK := aM (KeepBut.trans (kX HK.out) hk (.inl rfl)); replace HB := aM (hb); replace HI0 := aM (hi); clear hb hk hi; have hnbx1 := NBz4.out; have hncx1 := NBz3.out; have hnbx2 := NBz6.out; have hncx2 := NBz5.out; obtain ⟨hczx1, hczx2, hfzx1, hfzx2⟩ := cZ2 BKz2.out; obtain ⟨Aox1, cox1, eox1⟩ := Kd.R_slice HO_y1.out; subst eox1; refine Stop.out ?_))
      refine ⟨?_⟩
      by_cases c13 : t116 < 0
      case neg =>
        rw [if_neg c13] at H
        have c13b0 := decide_eq_false c13
        clear c13
        have H' := aM H
        clear H
        go_wp2_with (first | (refine goesM 61 15 Tryd.func61 #[.agg #[.slice Aox1 x107000_1.length cox1, .int .i64 t105], .int .i64 t113] ?_; refine (spec_KeyOf.calls _ _ _ _ _ _ _ _ (cX (Kd.R_reads' HO_y1.out).2.2) ((Kd.R_reads' HO_y1.out).2.1) A12.out).mono ?_; rintro e wx2 ⟨rfl, hb⟩; refine ⟨_, rfl, ?_⟩; replace HO_y1 := aQ HO_y1 hb; replace BKz1 := aB BKz1 hb; replace BKz2 := aB BKz2 hb; replace HK := aM (KeepBut.trans (kX HK.out) (KeepBut.of_below hb g none) (.inl rfl)); replace HB := aM (below_step (hY HB.out (IsS72.ge HI0.out)) hb); replace HI0 := aM (IsS72.below (i72 HI0.out) hb); clear hb))
        go_roundg k1
        case measure => have := HKy1.out; omega
        case rel => exact ⟨(wrap64 (x4_1 + 1)), (t114), (t115), (x107000_1), (.slice Aox1 x107000_1.length cox1), rS, H', ⟨by have := HKy1.out; omega⟩, ⟨(rX HO_y1.out)⟩, ⟨(bX BKz1.out)⟩, ⟨(bX BKz2.out)⟩, ⟨(i72 HI0.out)⟩, ⟨(kX HK.out)⟩, ⟨(hY HB.out (IsS72.ge HI0.out))⟩⟩
      rw [if_pos c13] at H
      have c13b0 := decide_eq_true c13
      clear c13
      replace H := ifP H; obtain ⟨c14, H⟩ := H
      have c14b0 := decide_eq_true c14
      clear c14
      replace H := ifP H; obtain ⟨c15, H⟩ := H
      have c15b0 := decide_eq_true c15
      clear c15
      obtain ⟨y117, hy117⟩ : ∃ y_ : List Int, y_ = (x107000_1.set (x4_1 : Int).toNat t113) := ⟨_, rfl⟩
      replace H : (spec_l3DrawRight.l0 k1 (wrap64 (x4_1 + 1)) s0_0 t114 t115 y117 t105) = some (r1, r2, r3, r4) := yH H hy117
      have Ny117 := aM hy117
      clear hy117
      have H' := aM H
      clear H
      go_wp2_with (first | (refine goesM 61 15 Tryd.func61 #[.agg #[.slice Aox1 x107000_1.length cox1, .int .i64 t105], .int .i64 t113] ?_; refine (spec_KeyOf.calls _ _ _ _ _ _ _ _ (cX (Kd.R_reads' HO_y1.out).2.2) ((Kd.R_reads' HO_y1.out).2.1) A12.out).mono ?_; rintro e wx2 ⟨rfl, hb⟩; refine ⟨_, rfl, ?_⟩; replace HO_y1 := aQ HO_y1 hb; replace BKz1 := aB BKz1 hb; replace BKz2 := aB BKz2 hb; replace HK := aM (KeepBut.trans (kX HK.out) (KeepBut.of_below hb g none) (.inl rfl)); replace HB := aM (below_step (hY HB.out (IsS72.ge HI0.out)) hb); replace HI0 := aM (IsS72.below (i72 HI0.out) hb); clear hb; obtain ⟨hczx3, hczx4, hfzx3, hfzx4⟩ := cZ2 BKz2.out; have px1 : 0 ≤ (x4_1 : Int) := odA; have qx1 : (x4_1 : Int) < ((x107000_1.length : Int) : Int) := odA; obtain ⟨gox1, cox2, eox2, gbx1, glx1, clx1, HGx1⟩ := Kd.R_form HO_y1.out (by omega); (first | cases eox2 | (injection eox2 with ea_ en_ ec_; (first | subst ea_ | (injection ea_ with ea_; subst ea_)); subst ec_; clear en_)); have GBx1 := aM gbx1; have GGx1 := aM HGx1; clear gbx1 glx1 HGx1; obtain ⟨hxx1, hfx1⟩ := Kd.R_celln 0 HO_y1.out (x4_1 : Int) px1 qx1; replace px1 := eq_true px1; replace qx1 := eq_true qx1; obtain ⟨hyx1, hzx1⟩ := Kd.R_celln 0 HO_y1.out (x4_1 : Int) (odA) (odA); have HPx1 := Kd.R_putg HO_y1.out (x4_1 : Int) t113) | ((with_reducible refine gate_store (t := 3) (p := 21) rfl ?_); refine store_event (t := 3) (p := 21) (v := ?vo_wx3) (w1 := (wx2.setCell ⟨gox1, (x4_1 : Int).toNat, none⟩ (.int .i64 t113))) ?hg ?ho ?hn ?hr ?_; (case ho => rfl); (case hg => rfl); (case hn => rfl); (case hr => first | (go_simp; done) | (go_simp; rfl)); intro wx3 hw; have hg : wx2.grownBy wx3 (some gox1) := (by rw [hw]; exact HPx1.2); have hp_ : Kd.R (Kd.int .i64) 3 wx3 w.heap.size (fun _ => True) (.slice (some ⟨gox1, 0, none⟩) x107000_1.length cox1) y117 := (by rw [hw, Ny117.out]; exact HPx1.1); clear HPx1; replace BKz1 := aM (blk_grown (g := gbz1) (o := .cells #[.slice none 0 0, .int .i64 0] 64 (0, 0)) (bX BKz1.out) hg (Kd.R_ne HO_y1.out BKz1.out (by decide))); replace BKz2 := aM (blk_grown (g := gbz2) (o := .cells #[.slice (some ⟨gox1, 0, none⟩) x107000_1.length cox1, .int .i64 t105] 64 (0, 0)) (bX BKz2.out) hg (Kd.R_ne HO_y1.out BKz2.out (by decide))); replace HI0 := aM (IsS72.grown (i72 HI0.out) hg (IsS72.own_ne HI0.out HO_y1.out (by decide))); replace HB := aM ((by rw [hw]; exact below_set (HB.out) (Nat.le_trans HL.out GBx1.out) : Below w0.heap.size w0 wx3)); replace HK := aM (KeepBut.trans (kX HK.out) (KeepBut.of_grown hg g) (Kd.R_base2 HO_y1.out)); replace HO_y1 := aM (hp_); clear hg hw hp_))
      go_roundg k1
      case measure => have := HKy1.out; omega
      case rel => exact ⟨(wrap64 (x4_1 + 1)), (t114), (t115), (y117), (.slice (some ⟨gox1, 0, none⟩) x107000_1.length cox1), rS, H', ⟨by have := HKy1.out; omega⟩, ⟨(rX HO_y1.out)⟩, ⟨(bX BKz1.out)⟩, ⟨(bX BKz2.out)⟩, ⟨(i72 HI0.out)⟩, ⟨(kX HK.out)⟩, ⟨(hY HB.out (IsS72.ge HI0.out))⟩⟩
def spec_RowsOk.l0 : Nat → Int → List Int → Int → Option (Bool)
  | 0, _, _, _ => none
  | k + 1, x3, x102000, x102001 => if x3 < (x102000.length : Int) then (if 0 ≤ x3 then (if (rd x102000 x3) = 0 then (spec_RowsOk.l0 k (wrap64 (x3 + 1)) x102000 x102001) else ((spec_ValOk.f (rd x102000 x3)).bind fun t105 => (if t105 = true then ((spec_KeyOf.f k x102000 x102001 (rd x102000 x3)).bind fun t107 => (if t107 = x3 then (spec_RowsOk.l0 k (wrap64 (x3 + 1)) x102000 x102001) else (some false))) else (some false)))) else (none)) else (if (x102000.length : Int) = 4 then ((spec_l1In.f x102001 0 5).bind fun t102 => (some t102)) else (some false))
def spec_RowsOk.f (k : Nat) (l0_0 : List Int) (a0_1 : Int) : Option (Bool) := spec_RowsOk.l0 k 0 l0_0 a0_1
def spec_RowsOk.T4 : Bool × List (List Nat × List Nat) := (true, [([], []), ([0], [0]), ([], []), ([1, 2], [1, 2]), ([3], [3]), ([4], [4]), ([5], [5]), ([6], [6]), ([7, 6], [6, 7]), ([6], [6]), ([8, 9, 6], [6, 8, 9]), ([10, 6], [6, 10]), ([11, 6, 6], [6, 11]), ([12, 6], [6, 12]), ([13, 12, 6], [6, 13]), ([14], [14]), ([14], [14]), ([16, 14], [14, 16]), ([14], [14]), ([17, 18, 14], [14, 17, 18]), ([19, 14], [14, 19]), ([15, 20, 14, 14], [14, 15, 20]), ([14], [14]), ([21, 22, 14], [14, 21, 22]), ([14, 23, 6], [6, 14, 23]), ([6, 24], [6, 24])])
def spec_RowsOk.B4 : List Nat := [0, 1, 0, 7, 15, 31, 63, 127, 255, 127, 1023, 2047, 4095, 8191, 16383, 32767, 32767, 98303, 32767, 491519, 1015807, 2097151, 32767, 8388607, 16777215, 33554431]
theorem spec_RowsOk.tab4 : rtab .any (opsOf Tryd.f63 4) = spec_RowsOk.T4 := by kernel_rfl
theorem spec_RowsOk.bits4 : waitsOk spec_RowsOk.T4.2 spec_RowsOk.B4 = true := by kernel_rfl
set_option maxHeartbeats 8000000 in
set_option maxRecDepth 100000 in
theorem spec_RowsOk.calls (k : Nat) (A0_0 : Option Addr) (c0_0 : Nat) (l0_0 : List Int) (a0_1 : Int) (r : Bool) (w : World) (hr0_0 : Kd.C (Kd.int .i64) w A0_0 l0_0.length l0_0) (hc0_0 : l0_0.length ≤ c0_0) (h : spec_RowsOk.f k l0_0 a0_1 = some r) :
    Calls Tryd.prog 63 #[.agg #[.slice A0_0 l0_0.length c0_0, .int .i64 a0_1]] w fun e w' => e = .returned (.bool r) ∧ Below w.heap.size w w' := by
  have hu64 := Tryd.underlying64
  have HR0_0 := aM hr0_0
  have HC0_0 := aM hc0_0
  clear hr0_0 hc0_0
  have HB := aM (Below.refl w.heap.size w)
  have H := h
  unfold spec_RowsOk.f at H
  clear h
  have H' := aM H
  clear H
  go_enter Tryd.func63, Tryd.ntmps63
  go_wp2_with (first | (refine boxE 1 #[.slice A0_0 l0_0.length c0_0, .int .i64 a0_1] 64 ?_; intro gbz1 hg wz1 hbox hb; have BKz1 := aM (hbox); have GWz1 := aG hg HB; have GEz1 := aG hg HB; replace HB := aS HB hb; clear hb hbox hg))
  go_loopg [3] k (fun kq v3 w' => ∃ (x3_1 : Int), v3 = .int .i64 x3_1 ∧ Aside0 (spec_RowsOk.l0 kq x3_1 l0_0 a0_1 = some r) ∧ Aside0 (kq ≤ k) ∧ Aside0 (w'.heap[gbz1]? = some (.cells #[(.slice A0_0 l0_0.length c0_0), .int .i64 a0_1] 64 (0, 0))) ∧ Aside0 (Below w.heap.size w w'))
  case atStart => exact ⟨(0), rS, H', ⟨Nat.le_refl _⟩, ⟨(bX BKz1.out)⟩, ⟨(hX HB.out)⟩⟩
  case round =>
    clear H'
    try clear p2
    obtain ⟨x3_1, rfl, HA, HKy1, BKz1, HB⟩ := hrel
    cases gk with
    | zero => exact absurd HA.out (by simp [spec_RowsOk.l0])
    | succ k1 =>
      have H := HA.out
      clear HA
      simp only [spec_RowsOk.l0] at H
      by_cases c3 : x3_1 < (l0_0.length : Int)
      case neg =>
        rw [if_neg c3] at H
        have c3b0 := decide_eq_false c3
        clear c3
        by_cases c20 : (l0_0.length : Int) = 4
        case neg =>
          rw [if_neg c20] at H
          obtain ⟨c20b0, c20b1⟩ := eqF c20
          obtain rfl := sI H
          obtain ⟨hczx1, hczx2, hfzx1, hfzx2⟩ := cZ2 BKz1.out
          go_wp2
          go_ret
          exact ⟨rE, (hX HB.out)⟩
        rw [if_pos c20] at H
        obtain ⟨c20b0, c20b1⟩ := eqT c20
        clear c20
        replace H := bE H; obtain ⟨t102, A21, H⟩ := H
        obtain rfl := sI H
        obtain ⟨hczx1, hczx2, hfzx1, hfzx2⟩ := cZ2 BKz1.out
        go_wp2_with (first | (go_at_call 51; (with_reducible refine (spec_l1In.calls _ _ _ _ _ A21.out).mono ?_); rintro e w' ⟨rfl, ⟨nd, rfl⟩⟩))
        go_ret
        exact ⟨rE, (hX HB.out)⟩
      rw [if_pos c3] at H
      have c3b0 := decide_eq_true c3
      clear c3
      replace H := ifP H; obtain ⟨c4, H⟩ := H
      have c4b0 := decide_eq_true c4
      clear c4
      by_cases c5 : (rd l0_0 x3_1) = 0
      · rw [if_pos c5] at H
        obtain ⟨c5b0, c5b1⟩ := eqT c5
        clear c5
        have H' := aM H
        clear H
        obtain ⟨hczx1, hczx2, hfzx1, hfzx2⟩ := cZ2 BKz1.out
        try go_wp2
        obtain ⟨adx1, ex1, px1, qx1, hxx1⟩ := at_ic HR0_0 HB x3_1
        cases ex1
        have hcb0_ := cV2 BKz1.out
        refine sR0 26 spec_RowsOk.tab4 spec_RowsOk.bits4 (fun HT_ HW_ hHeld => ?_)
        refine zA 0 ?_
        refine zA 2 ?_
        refine tA 1 ?_
        refine zA 3 ?_
        refine tA 4 ?_
        refine zA 5 ?_
        refine zA 6 ?_
        refine uA 7 ?_
        refine uA 8 ?_
        refine uA 9 ?_
        refine uA 10 ?_
        refine uA 11 ?_
        refine uA 12 ?_
        refine uA 13 ?_
        refine uA 14 ?_
        refine uA 15 ?_
        refine uA 16 ?_
        refine uA 17 ?_
        refine uA 18 ?_
        refine uA 19 ?_
        refine uA 20 ?_
        refine uA 21 ?_
        refine uA 22 ?_
        refine uA 23 ?_
        refine uA 24 ?_
        refine zA 25 ?_
        refine dA ?_
        try go_wp2
        go_roundg k1
        case measure => have := HKy1.out; omega
        case rel => exact ⟨(wrap64 (x3_1 + 1)), rS, H', ⟨by have := HKy1.out; omega⟩, ⟨(bX BKz1.out)⟩, ⟨(hX HB.out)⟩⟩
      rw [if_neg c5] at H
      obtain ⟨c5b0, c5b1⟩ := eqF c5
      replace H := bE H; obtain ⟨t105, A8, H⟩ := H
      by_cases c9 : t105 = true
      case neg =>
        replace c9 := Bool.eq_false_iff.mpr c9
        subst c9
        rw [if_neg nft] at H
        obtain rfl := sI H
        obtain ⟨hczx1, hczx2, hfzx1, hfzx2⟩ := cZ2 BKz1.out
        try go_wp2
        obtain ⟨adx1, ex1, px1, qx1, hxx1⟩ := at_ic HR0_0 HB x3_1
        cases ex1
        obtain ⟨adx2, ex2, px2, qx2, hxx2⟩ := at_ic HR0_0 HB x3_1
        obtain rfl : adx1 = adx2 := (by injection ex2)
        have hcb0_ := cV2 BKz1.out
        refine sR0 26 spec_RowsOk.tab4 spec_RowsOk.bits4 (fun HT_ HW_ hHeld => ?_)
        refine zA 0 ?_
        refine zA 2 ?_
        refine tA 1 ?_
        refine zA 3 ?_
        refine tA 4 ?_
        refine zA 5 ?_
        refine zA 6 ?_
        refine zA 7 ?_
        refine zA 9 ?_
        refine tA 8 ?_
        refine zA 10 ?_
        refine tA 11 ?_
        refine eD 12 Tryd.func57 (spec_ValOk.calls _ _ _ A8.out) (fun nd hHeld => ?_)
        refine zA 13 ?_
        refine zA 14 ?_
        refine uA 15 ?_
        refine uA 16 ?_
        refine uA 17 ?_
        refine uA 18 ?_
        refine uA 19 ?_
        refine uA 20 ?_
        refine uA 21 ?_
        refine uA 22 ?_
        refine uA 23 ?_
        refine zA 24 ?_
        refine zA 25 ?_
        refine dA ?_
        try go_wp2
        go_ret
        exact ⟨rE, (hX HB.out)⟩
      subst c9
      rw [if_pos rfl] at H
      replace H := bE H; obtain ⟨t107, A10, H⟩ := H
      by_cases c11 : t107 = x3_1
      case neg =>
        rw [if_neg c11] at H
        obtain ⟨c11b0, c11b1⟩ := eqF c11
        obtain rfl := sI H
        obtain ⟨hczx1, hczx2, hfzx1, hfzx2⟩ := cZ2 BKz1.out
        try go_wp2
        obtain ⟨adx1, ex1, px1, qx1, hxx1⟩ := at_ic HR0_0 HB x3_1
        cases ex1
        obtain ⟨adx2, ex2, px2, qx2, hxx2⟩ := at_ic HR0_0 HB x3_1
        obtain rfl : adx1 = adx2 := (by injection ex2)
        obtain ⟨adx3, ex3, px3, qx3, hxx3⟩ := at_ic HR0_0 HB x3_1
        obtain rfl : adx1 = adx3 := (by injection ex3)
        have hcb0_ := cV2 BKz1.out
        refine sR0 26 spec_RowsOk.tab4 spec_RowsOk.bits4 (fun HT_ HW_ hHeld => ?_)
        refine zA 0 ?_
        refine zA 2 ?_
        refine tA 1 ?_
        refine zA 3 ?_
        refine tA 4 ?_
        refine zA 5 ?_
        refine zA 6 ?_
        refine zA 7 ?_
        refine zA 9 ?_
        refine tA 8 ?_
        refine zA 10 ?_
        refine tA 11 ?_
        refine eD 12 Tryd.func57 (spec_ValOk.calls _ _ _ A8.out) (fun nd hHeld => ?_)
        refine zA 13 ?_
        refine zA 14 ?_
        refine zA 16 ?_
        refine zA 18 ?_
        refine zA 22 ?_
        refine tA 15 ?_
        refine tA 17 ?_
        refine zA 19 ?_
        refine tA 20 ?_
        refine eB 21 Tryd.func61 (spec_KeyOf.calls k1 _ _ l0_0 a0_1 (rd l0_0 x3_1) t107 _ (cC HR0_0.out HB.out) HC0_0.out A10.out) (fun wx2 hb hHeld => ?_)
        replace BKz1 := aB BKz1 hb
        replace HB := aS HB hb
        (try clear hb)
        (try clear hb2)
        (try clear hk)
        (try clear hi)
        refine zA 23 ?_
        refine zA 24 ?_
        refine zA 25 ?_
        refine dA ?_
        try go_wp2
        go_ret
        exact ⟨rE, (hX HB.out)⟩
      rw [if_pos c11] at H
      obtain ⟨c11b0, c11b1⟩ := eqT c11
      clear c11
      have H' := aM H
      clear H
      obtain ⟨hczx1, hczx2, hfzx1, hfzx2⟩ := cZ2 BKz1.out
      try go_wp2
      obtain ⟨adx1, ex1, px1, qx1, hxx1⟩ := at_ic HR0_0 HB x3_1
      cases ex1
      obtain ⟨adx2, ex2, px2, qx2, hxx2⟩ := at_ic HR0_0 HB x3_1
      obtain rfl : adx1 = adx2 := (by injection ex2)
      obtain ⟨adx3, ex3, px3, qx3, hxx3⟩ := at_ic HR0_0 HB x3_1
      obtain rfl : adx1 = adx3 := (by injection ex3)
      have hcb0_ := cV2 BKz1.out
      refine sR0 26 spec_RowsOk.tab4 spec_RowsOk.bits4 (fun HT_ HW_ hHeld => ?_)
      refine zA 0 ?_
      refine zA 2 ?_
      refine tA 1 ?_
      refine zA 3 ?_
      refine tA 4 ?_
      refine zA 5 ?_
      refine zA 6 ?_
      refine zA 7 ?_
      refine zA 9 ?_
      refine tA 8 ?_
      refine zA 10 ?_
      refine tA 11 ?_
      refine eD 12 Tryd.func57 (spec_ValOk.calls _ _ _ A8.out) (fun nd hHeld => ?_)
      refine zA 13 ?_
      refine zA 14 ?_
      refine zA 16 ?_
      refine zA 18 ?_
      refine zA 22 ?_
      refine tA 15 ?_
      refine tA 17 ?_
      refine zA 19 ?_
      refine tA 20 ?_
      refine eB 21 Tryd.func61 (spec_KeyOf.calls k1 _ _ l0_0 a0_1 (rd l0_0 x3_1) t107 _ (cC HR0_0.out HB.out) HC0_0.out A10.out) (fun wx2 hb hHeld => ?_)
      replace BKz1 := aB BKz1 hb
      replace HB := aS HB hb
      (try clear hb)
      (try clear hb2)
      (try clear hk)
      (try clear hi)
      refine zA 23 ?_
      refine zA 24 ?_
      refine zA 25 ?_
      refine dA ?_
      try go_wp2
      go_roundg k1
      case measure => have := HKy1.out; omega
      case rel => exact ⟨(wrap64 (x3_1 + 1)), rS, H', ⟨by have := HKy1.out; omega⟩, ⟨(bX BKz1.out)⟩, ⟨(hX HB.out)⟩⟩
def spec_l1Bit.f (a0 : Bool) : Option (Int) := if a0 = true then (some 1) else (some 0)
set_option maxHeartbeats 8000000 in
set_option maxRecDepth 100000 in
theorem spec_l1Bit.calls (a0 : Bool) (r : Int) (w : World) (h : spec_l1Bit.f a0 = some r) :
    Calls Tryd.prog 75 #[.bool a0] w fun e w' => e = .returned (.int .i64 r) ∧ Drawn0 w w' := by
  have H := h
  unfold spec_l1Bit.f at H
  clear h
  go_enter Tryd.func75, Tryd.ntmps75
  by_cases c2 : a0 = true
  · subst c2
    rw [if_pos rfl] at H
    obtain rfl := sI H
    go_wp2
    go_ret
    exact ⟨by first | rfl | (simp; done) | (simp [*]; done), dX⟩
  replace c2 := Bool.eq_false_iff.mpr c2
  subst c2
  rw [if_neg nft] at H
  obtain rfl := sI H
  go_wp2
  go_ret
  exact ⟨by first | rfl | (simp; done) | (simp [*]; done), dX⟩
def spec_ClassOf.f (a0 : Int) : Option (Int) := (spec_ValOk.f a0).bind fun t101 => (if t101 = true then (some (Int.tmod a0 3)) else (some (-1)))
set_option maxHeartbeats 8000000 in
set_option maxRecDepth 100000 in
theorem spec_ClassOf.calls (a0 : Int) (r : Int) (w : World) (h : spec_ClassOf.f a0 = some r) :
    Calls Tryd.prog 76 #[.int .i64 a0] w fun e w' => e = .returned (.int .i64 r) ∧ Drawn0 w w' := by
  have H := h
  unfold spec_ClassOf.f at H
  clear h
  replace H := bE H; obtain ⟨t101, A2, H⟩ := H
  go_enter Tryd.func76, Tryd.ntmps76
  by_cases c3 : t101 = true
  · subst c3
    rw [if_pos rfl] at H
    obtain rfl := sI H
    go_wp2_with (first | (refine goesM 57 4 Tryd.func57 #[.int .i64 a0] ?_; refine (spec_ValOk.calls _ _ _ A2.out).mono ?_; rintro e w' ⟨rfl, ⟨nd, rfl⟩⟩; refine ⟨_, rfl, ?_⟩))
    go_ret
    exact ⟨by first | rfl | (simp; done) | (simp [*]; done), dX⟩
  replace c3 := Bool.eq_false_iff.mpr c3
  subst c3
  rw [if_neg nft] at H
  obtain rfl := sI H
  go_wp2_with (first | (refine goesM 57 4 Tryd.func57 #[.int .i64 a0] ?_; refine (spec_ValOk.calls _ _ _ A2.out).mono ?_; rintro e w' ⟨rfl, ⟨nd, rfl⟩⟩; refine ⟨_, rfl, ?_⟩))
  go_ret
  exact ⟨by first | rfl | (simp; done) | (simp [*]; done), dX⟩
def spec_HowMany.l0 : Nat → Int → Int → Int → List Int → Int → Option (Int)
  | 0, _, _, _, _, _ => none
  | k + 1, x1, x5, x6, x102000, x102001 => if x6 < (x102000.length : Int) then (if 0 ≤ x6 then ((spec_ValOk.f (rd x102000 x6)).bind fun t103 => (if t103 = true then ((spec_ClassOf.f (rd x102000 x6)).bind fun t105 => ((spec_l1Bit.f (t105 == x1)).bind fun t106 => (spec_HowMany.l0 k x1 (wrap64 (x5 + t106)) (wrap64 (x6 + 1)) x102000 x102001))) else ((spec_l1Bit.f false).bind fun t107 => (spec_HowMany.l0 k x1 (wrap64 (x5 + t107)) (wrap64 (x6 + 1)) x102000 x102001)))) else (none)) else (some x5)
def spec_HowMany.f (k : Nat) (l0_0 : List Int) (a0_1 : Int) (a1 : Int) : Option (Int) := spec_HowMany.l0 k a1 0 0 l0_0 a0_1
set_option maxHeartbeats 8000000 in
set_option maxRecDepth 100000 in
theorem spec_HowMany.calls (k : Nat) (A0_0 : Option Addr) (c0_0 : Nat) (l0_0 : List Int) (a0_1 : Int) (a1 : Int) (r : Int) (w : World) (hr0_0 : Kd.C (Kd.int .i64) w A0_0 l0_0.length l0_0) (hc0_0 : l0_0.length ≤ c0_0) (h : spec_HowMany.f k l0_0 a0_1 a1 = some r) :
    Calls Tryd.prog 69 #[.agg #[.slice A0_0 l0_0.length c0_0, .int .i64 a0_1], .int .i64 a1] w fun e w' => e = .returned (.int .i64 r) ∧ Below w.heap.size w w' := by
  have hu64 := Tryd.underlying64
  have HR0_0 := aM hr0_0
  have HC0_0 := aM hc0_0
  clear hr0_0 hc0_0
  have HB := aM (Below.refl w.heap.size w)
  have H := h
  unfold spec_HowMany.f at H
  clear h
  have H' := aM H
  clear H
  go_enter Tryd.func69, Tryd.ntmps69
  go_wp2_with (first | (refine boxE 2 #[.slice A0_0 l0_0.length c0_0, .int .i64 a0_1] 64 ?_; intro gbz1 hg wz1 hbox hb; have BKz1 := aM (hbox); have GWz1 := aG hg HB; have GEz1 := aG hg HB; replace HB := aS HB hb; clear hb hbox hg))
  go_loopg [5, 6] k (fun kq v5 v6 w' => ∃ (x5_1 : Int) (x6_1 : Int), v5 = .int .i64 x5_1 ∧ v6 = .int .i64 x6_1 ∧ Aside0 (spec_HowMany.l0 kq a1 x5_1 x6_1 l0_0 a0_1 = some r) ∧ Aside0 (kq ≤ k) ∧ Aside0 (w'.heap[gbz1]? = some (.cells #[(.slice A0_0 l0_0.length c0_0), .int .i64 a0_1] 64 (0, 0))) ∧ Aside0 (Below w.heap.size w w'))
  case atStart => exact ⟨(0), (0), rS, rS, H', ⟨Nat.le_refl _⟩, ⟨(bX BKz1.out)⟩, ⟨(hX HB.out)⟩⟩
  case round =>
    clear H'
    try clear p2
    obtain ⟨x5_1, x6_1, rfl, rfl, HA, HKy1, BKz1, HB⟩ := hrel
    cases gk with
    | zero => exact absurd HA.out (by simp [spec_HowMany.l0])
    | succ k1 =>
      have H := HA.out
      clear HA
      simp only [spec_HowMany.l0] at H
      by_cases c4 : x6_1 < (l0_0.length : Int)
      case neg =>
        rw [if_neg c4] at H
        have c4b0 := decide_eq_false c4
        clear c4
        obtain rfl := sI H
        obtain ⟨hczx1, hczx2, hfzx1, hfzx2⟩ := cZ2 BKz1.out
        go_wp2
        go_ret
        exact ⟨rE, (hX HB.out)⟩
      rw [if_pos c4] at H
      have c4b0 := decide_eq_true c4
      clear c4
      replace H := ifP H; obtain ⟨c5, H⟩ := H
      have c5b0 := decide_eq_true c5
      clear c5
      replace H := bE H; obtain ⟨t103, A6, H⟩ := H
      by_cases c7 : t103 = true
      case neg =>
        replace c7 := Bool.eq_false_iff.mpr c7
        subst c7
        rw [if_neg nft] at H
        replace H := bE H; obtain ⟨t107, A11, H⟩ := H
        have H' := aM H
        clear H
        obtain ⟨hczx1, hczx2, hfzx1, hfzx2⟩ := cZ2 BKz1.out
        obtain ⟨adx1, ex1, px1, qx1, hxx1⟩ := at_ic HR0_0 HB x6_1
        cases ex1
        go_wp2_with (first | (refine goesM 57 20 Tryd.func57 #[.int .i64 (rd l0_0 x6_1)] ?_; refine (spec_ValOk.calls _ _ _ A6.out).mono ?_; rintro e w' ⟨rfl, ⟨nd, rfl⟩⟩; refine ⟨_, rfl, ?_⟩) | (refine goesM 75 31 Tryd.func75 #[.bool false] ?_; refine (spec_l1Bit.calls _ _ _ A11.out).mono ?_; rintro e w' ⟨rfl, ⟨nd, rfl⟩⟩; refine ⟨_, rfl, ?_⟩))
        go_roundg k1
        case measure => have := HKy1.out; omega
        case rel => exact ⟨(wrap64 (x5_1 + t107)), (wrap64 (x6_1 + 1)), rS, rS, H', ⟨by have := HKy1.out; omega⟩, ⟨(bX BKz1.out)⟩, ⟨(hX HB.out)⟩⟩
      subst c7
      rw [if_pos rfl] at H
      replace H := bE H; obtain ⟨t105, A8, H⟩ := H
      replace H := bE H; obtain ⟨t106, A9, H⟩ := H
      have H' := aM H
      clear H
      obtain ⟨hczx1, hczx2, hfzx1, hfzx2⟩ := cZ2 BKz1.out
      obtain ⟨adx1, ex1, px1, qx1, hxx1⟩ := at_ic HR0_0 HB x6_1
      cases ex1
      go_wp2_with (first | (refine goesM 57 20 Tryd.func57 #[.int .i64 (rd l0_0 x6_1)] ?_; refine (spec_ValOk.calls _ _ _ A6.out).mono ?_; rintro e w' ⟨rfl, ⟨nd, rfl⟩⟩; refine ⟨_, rfl, ?_⟩; have px2 : 0 ≤ (x6_1 : Int) := odA; have qx2 : x6_1 < (l0_0.length : Int) := odA; obtain ⟨adx2, ex2, hxx2⟩ := Kd.at_int HR0_0.out x6_1 px2 qx2; obtain rfl : adx1 = adx2 := (by injection ex2); replace hxx2 := bc HB.out hxx2; replace px2 := eq_true px2; replace qx2 := eq_true qx2) | (go_at_call 76; (with_reducible refine (spec_ClassOf.calls _ _ _ A8.out).mono ?_); rintro e w' ⟨rfl, ⟨nd, rfl⟩⟩) | (refine goesM 75 31 Tryd.func75 #[.bool (t105 == a1)] ?_; refine (spec_l1Bit.calls _ _ _ A9.out).mono ?_; rintro e w' ⟨rfl, ⟨nd, rfl⟩⟩; refine ⟨_, rfl, ?_⟩))
      go_roundg k1
      case measure => have := HKy1.out; omega
      case rel => exact ⟨(wrap64 (x5_1 + t106)), (wrap64 (x6_1 + 1)), rS, rS, H', ⟨by have := HKy1.out; omega⟩, ⟨(bX BKz1.out)⟩, ⟨(hX HB.out)⟩⟩
end Go.Proofs.YtafcfhgdblefgaaDoor.P

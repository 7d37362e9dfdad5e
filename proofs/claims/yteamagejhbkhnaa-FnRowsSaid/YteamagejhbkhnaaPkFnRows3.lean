/- The law FnRows holds: for every input the call returns true, and each argument reads afterwards as_ it read before. Conditions: none. Written by a program of this session. -/
import Derived.OpenShut
import Derived.DataElems
import Derived.DataReads
import Derived.Laws.BitsLemmas
import Derived.Test.YteamagejhbkhnaaRows
import Derived.WalkKit
import Derived.ProofKit
import Derived.ShutString
import Derived.ChangeOld
import Derived.Below
import Derived.SizedLaws
import Derived.Carry
import Derived.Test.YteamagejhbkhnaaPkFnRows2
namespace Go.Proofs.Yteamagejhbkhnaa.P
open Go.Proofs.YteamagejhbkhnaaZ Go.RowKit Go.Proofs.YteamagejhbkhnaaW.PrintWords Go.Proofs.YteamagejhbkhnaaW.PrintLast Go.Proofs.YteamagejhbkhnaaW.PrintMore
attribute [local go_sem] max2_int min2_int max_two min_two max_three min_three max_four min_four   -- for this text's walks alone
set_option linter.unusedVariables false
set_option linter.unusedSimpArgs false
mutual
def laws_FnRows.j0 : Nat → List Int → Bool → List Int → Int → Option (Bool)
  | 0, _, _, _, _ => none
  | k + 1, x4, x65, x107000, x107001 => if x65 = true then (some false) else ((impl_RowsNew.f).bind fun bt137 => ((impl_RowsOk.f k bt137.1 bt137.2).bind fun t142 => (if t142 = true then ((spec_RowsNew.f).bind fun bt143 => (laws_FnRows.j1 k x4 (bt137.2 != bt143.2) x107000 x107001)) else (laws_FnRows.j1 k x4 true x107000 x107001))))
def laws_FnRows.j1 : Nat → List Int → Bool → List Int → Int → Option (Bool)
  | 0, _, _, _, _ => none
  | k + 1, x4, x76, x107000, x107001 => if x76 = true then (some false) else ((impl_RowsOk.f k x107000 x107001).bind fun t147 => (if t147 = true then ((impl_RowsIn.f x4).bind fun bt148 => (laws_FnRows.l0 k x4 0 0 x107000 x107001 bt148.1 bt148.2)) else (some ((x4.length : Int) == 0))))
def laws_FnRows.l0 : Nat → List Int → Int → Int → List Int → Int → List Int → Int → Option (Bool)
  | 0, _, _, _, _, _, _, _ => none
  | k + 1, x4, x12, x13, x107000, x107001, x153000, x153001 => if x13 < 3 then ((impl_CountAt.f x13).bind fun t153 => (if 0 ≤ t153 then (if t153 < (x4.length : Int) then (laws_FnRows.l0 k x4 (wrap64 (x12 + (rd x4 t153))) (wrap64 (x13 + 1)) x107000 x107001 x153000 x153001) else (none)) else (none))) else (laws_FnRows.l1 k x4 x12 0 0 x107000 x107001 x153000 x153001)
def laws_FnRows.l1 : Nat → List Int → Int → Int → Int → List Int → Int → List Int → Int → Option (Bool)
  | 0, _, _, _, _, _, _, _, _ => none
  | k + 1, x4, x12, x14, x15, x107000, x107001, x153000, x153001 => if x15 < 4 then (if 0 ≤ x15 then (if x15 < (x107000.length : Int) then (if (rd x107000 x15) = 0 then (laws_FnRows.l1 k x4 x12 x14 (wrap64 (x15 + 1)) x107000 x107001 x153000 x153001) else ((impl_Find.f k x4 (rd x107000 x15)).bind fun bt159 => (if bt159.2 = true then (if bt159.1 = x15 then (laws_FnRows.l1 k x4 x12 (wrap64 (x14 + 1)) (wrap64 (x15 + 1)) x107000 x107001 x153000 x153001) else (some false)) else (some false)))) else (none)) else (none)) else ((impl_Whole.f k x4).bind fun t155 => (if t155 = true then ((laws_sameInts.f k x153000 x107000).bind fun t156 => (if t156 = true then (if x153001 = x107001 then (some (x12 == x14)) else (some false)) else (some false))) else (some false)))
end
def laws_FnRows.f (k : Nat) (l0 : List Int) : Option (Bool) := (laws_big.f l0).bind fun t101 => (if t101 = true then (some true) else ((spec_DrawWordsOf.f k l0).bind fun bt102 => ((impl_WordsOf.f k bt102.1 bt102.2).bind fun t107 => ((spec_DrawRowsOk.f k l0).bind fun bt110 => ((spec_DrawKeyOf.f k l0).bind fun bt115 => ((spec_DrawHowMany.f k l0).bind fun bt121 => ((spec_WordsOf.f k bt102.1 bt102.2).bind fun t127 => ((laws_sameInts.f k t107 t127).bind fun t130 => (if t130 = true then ((impl_RowsOk.f k bt110.1 bt110.2).bind fun t131 => ((spec_RowsOk.f k bt110.1 bt110.2).bind fun t132 => (if (t131 != t132) = true then (laws_FnRows.j0 k t107 true bt102.1 bt102.2) else ((impl_KeyOf.f k bt115.1 bt115.2.1 bt115.2.2).bind fun t133 => ((spec_KeyOf.f k bt115.1 bt115.2.1 bt115.2.2).bind fun t134 => (if t133 = t134 then ((impl_HowMany.f k bt121.1 bt121.2.1 bt121.2.2).bind fun t135 => ((spec_HowMany.f k bt121.1 bt121.2.1 bt121.2.2).bind fun t136 => (laws_FnRows.j0 k t107 (t135 != t136) bt102.1 bt102.2))) else (laws_FnRows.j0 k t107 true bt102.1 bt102.2))))))) else (laws_FnRows.j0 k t107 true bt102.1 bt102.2))))))))))
def laws_FnRows.T8 : Bool × List (List Nat × List Nat) := (true, [([], []), ([], []), ([1], [1]), ([0, 2, 2], [0, 2]), ([3], [3]), ([4, 3], [4]), ([5], [5]), ([6, 5, 5], [5, 6]), ([5], [5]), ([8, 7, 5], [5, 8]), ([7, 9, 5], [5, 7, 9]), ([5, 10], [5, 10]), ([11, 9], [11]), ([12], [12]), ([12], [12]), ([13, 14, 12, 12], [12, 13, 14]), ([12], [12]), ([12], [12]), ([16, 17, 15, 12], [12, 16, 17]), ([15, 18, 12], [12, 15, 18]), ([12, 19], [12, 19]), ([20, 18], [20]), ([21], [21]), ([21], [21]), ([22, 23, 21, 21], [21, 22, 23]), ([21], [21]), ([21], [21]), ([25, 26, 24, 21], [21, 25, 26]), ([24, 27, 21], [21, 24, 27]), ([21, 28], [21, 28])])
def laws_FnRows.B8 : List Nat := [0, 0, 2, 7, 15, 31, 63, 127, 63, 511, 1023, 2047, 4095, 8191, 8191, 32767, 8191, 8191, 262143, 524287, 1048575, 2097151, 4194303, 4194303, 16777215, 4194303, 4194303, 134217727, 268435455, 536870911]
theorem laws_FnRows.tab8 : rtab .any (opsOf Try.f8 8) = laws_FnRows.T8 := by kernel_rfl
theorem laws_FnRows.bits8 : waitsOk laws_FnRows.T8.2 laws_FnRows.B8 = true := by kernel_rfl
def laws_FnRows.T11 : Bool × List (List Nat × List Nat) := (true, [([], []), ([0], [0]), ([1], [1]), ([2, 1], [2]), ([3], [3]), ([4, 3], [3, 4]), ([3, 3], [3]), ([6, 3], [3, 6]), ([5, 7, 3], [3, 5, 7]), ([3, 8], [3, 8])])
def laws_FnRows.B11 : List Nat := [0, 1, 3, 7, 15, 31, 15, 79, 255, 511]
theorem laws_FnRows.tab11 : rtab .any (opsOf Try.f8 11) = laws_FnRows.T11 := by kernel_rfl
theorem laws_FnRows.bits11 : waitsOk laws_FnRows.T11.2 laws_FnRows.B11 = true := by kernel_rfl
set_option maxHeartbeats 8000000 in
set_option maxRecDepth 100000 in
theorem laws_FnRows.calls (k : Nat) (A0 : Option Addr) (c0 : Nat) (l0 : List Int) (r : Bool) (w : World) (hr0 : Kd.C (Kd.int .u8) w A0 l0.length l0) (hc0 : l0.length ≤ c0) (h : laws_FnRows.f k l0 = some r) :
    Calls Try.prog 8 #[.slice A0 l0.length c0] w fun e w' => e = .returned (.bool r) ∧ Below w.heap.size w w' := by
  have hu24 := Try.underlying24
  have HR0 := Aside0.mk hr0
  have HC0 := Aside0.mk hc0
  clear hr0 hc0
  have HB := Aside0.mk (Below.refl w.heap.size w)
  have H := h
  unfold laws_FnRows.f at H
  clear h
  replace H := bE H; obtain ⟨t101, A2, H⟩ := H
  go_enter Try.func8, Try.ntmps8
  by_cases c3 : t101 = true
  · subst c3
    rw [if_pos rfl] at H
    obtain rfl := Option.some.inj H
    go_wp2_with (first | (refine goesM 30 19 Try.func30 #[.slice A0 l0.length c0] ?_; refine (laws_big.calls _ _ l0 true _ (cX HR0.out) HC0.out A2.out).mono ?_; rintro e w' ⟨rfl, ⟨nd, rfl⟩⟩; refine ⟨_, rfl, ?_⟩))
    go_ret
    exact ⟨rE, (hX HB.out)⟩
  · replace c3 := Bool.eq_false_iff.mpr c3
    subst c3
    rw [if_neg nft] at H
    replace H := bE H; obtain ⟨⟨t102, t105⟩, A4, H⟩ := H
    try dsimp only at H
    replace H := bE H; obtain ⟨t107, A5, H⟩ := H
    replace H := bE H; obtain ⟨⟨t110, t113⟩, A6, H⟩ := H
    try dsimp only at H
    replace H := bE H; obtain ⟨⟨t115, t118, t119⟩, A7, H⟩ := H
    try dsimp only at H
    replace H := bE H; obtain ⟨⟨t121, t124, t125⟩, A8, H⟩ := H
    try dsimp only at H
    have HC9 := Aside0.mk H
    clear H
    go_upto_region 8 with (first | ((with_reducible refine gate_callee (f := 30) rfl ?_); refine goesM 30 19 Try.func30 #[.slice A0 l0.length c0] ?_; refine (laws_big.calls _ _ l0 false _ (cX HR0.out) HC0.out A2.out).mono ?_; rintro e w' ⟨rfl, ⟨nd, rfl⟩⟩; refine ⟨_, rfl, ?_⟩) | ((with_reducible refine gate_callee (f := 31) rfl ?_); refine goesM 31 21 Try.func31 #[.slice A0 l0.length c0] ?_; refine (spec_DrawWordsOf.calls k _ _ l0 t102 t105 _ (cX HR0.out) HC0.out A4.out).mono ?_; rintro e wz1 ⟨vz1, rfl, hoz1, hb⟩; refine ⟨_, rfl, ?_⟩; have HOz1 := Aside0.mk (Kd.R_lower hoz1 (below_size (hX HB.out))); replace HB := Aside0.mk (below_step (hX HB.out) hb); clear hb hoz1) | ((with_reducible refine gate_dst (N := 3) rfl ?_); refine boxE 3 #[.slice none 0 0, .int .i64 0] 24 ?_; intro gbz1 hg wz2 hbox hb; have BKz1 := Aside0.mk (hbox); have GWz1 := Aside0.mk (gX' hg (hX HB.out)); have GEz1 := Aside0.mk (gX' hg (hX HB.out)); replace HOz1 := Aside0.mk (Kd.R_below (rX HOz1.out) hb); replace HB := Aside0.mk (below_step (hX HB.out) hb); clear hb hbox hg; obtain ⟨Aoz1, coz1, eoz1⟩ := Kd.R_slice HOz1.out; subst eoz1; obtain ⟨hczz1, hczz2, hfzz1, hfzz2⟩ := cZ2 BKz1.out) | ((with_reducible refine gate_callee (f := 32) rfl ?_); refine goesM 32 23 Try.func32 #[.agg #[.slice Aoz1 t102.length coz1, .int .i64 t105]] ?_; refine (impl_WordsOf.calls k _ _ t102 t105 t107 _ (by refine (Kd.R_reads' (e := 3) (base := w.heap.size) (ok := fun k_ => True) (n := t102.length) (c := coz1) ?_).2.2; exact (rT (h := by exact (Kd.R_mono (Kd.R_far (p := ⟨gbz1, 1, none⟩) (Kd.R_far (p := ⟨gbz1, 0, none⟩) (Kd.R_types HOz1.out BKz1.out (by decide)) (fun _ hk => hk.2) (.slice Aoz1 t102.length coz1)) (fun _ hk => hk.2) (.int .i64 t105)) (fun _ h_ => h_.1))))) ((Kd.R_reads' HOz1.out).2.1) A5.out).mono ?_; rintro e wz3 ⟨vz2, rfl, hoz1, hb⟩; refine ⟨_, rfl, ?_⟩; have HOz2 := Aside0.mk (Kd.R_lower (Kd.R_new' hoz1 (Kd.R_lt (rT (h := by exact (Kd.R_mono (Kd.R_far (p := ⟨gbz1, 1, none⟩) (Kd.R_far (p := ⟨gbz1, 0, none⟩) (Kd.R_types HOz1.out BKz1.out (by decide)) (fun _ hk => hk.2) (.slice Aoz1 t102.length coz1)) (fun _ hk => hk.2) (.int .i64 t105)) (fun _ h_ => h_.1)))))) (below_size (hX HB.out))); replace HOz1 := Aside0.mk (Kd.R_elder' (rT (h := by exact (Kd.R_mono (Kd.R_far (p := ⟨gbz1, 1, none⟩) (Kd.R_far (p := ⟨gbz1, 0, none⟩) (Kd.R_types HOz1.out BKz1.out (by decide)) (fun _ hk => hk.2) (.slice Aoz1 t102.length coz1)) (fun _ hk => hk.2) (.int .i64 t105)) (fun _ h_ => h_.1)))) (Kd.R_base hoz1) hb); replace BKz1 := Aside0.mk (blk_below (g := gbz1) (o := .cells #[.slice Aoz1 t102.length coz1, .int .i64 t105] 24 (0, 0)) (bP BKz1.out) hb); replace HB := Aside0.mk (below_step (hX HB.out) hb); clear hb hoz1) | ((with_reducible refine gate_callee (f := 33) rfl ?_); refine goesM 33 25 Try.func33 #[.slice A0 l0.length c0] ?_; refine (spec_DrawRowsOk.calls k _ _ l0 t110 t113 _ (cC HR0.out HB.out) HC0.out A6.out).mono ?_; rintro e wz4 ⟨vz3, rfl, hoz1, hb⟩; refine ⟨_, rfl, ?_⟩; have HOz3 := Aside0.mk (Kd.R_lower (Kd.R_new' (Kd.R_new' hoz1 (Kd.R_lt (rX HOz1.out))) (Kd.R_lt (rX HOz2.out))) (below_size (hX HB.out))); replace HOz1 := Aside0.mk (Kd.R_elder' (rX HOz1.out) (Kd.R_base hoz1) hb); replace HOz2 := Aside0.mk (Kd.R_elder' (rX HOz2.out) (Kd.R_base hoz1) hb); replace BKz1 := Aside0.mk (blk_below (bX BKz1.out) hb); replace HB := Aside0.mk (below_step (hX HB.out) hb); clear hb hoz1) | ((with_reducible refine gate_dst (N := 5) rfl ?_); refine boxE 5 #[.slice none 0 0, .int .i64 0] 24 ?_; intro gbz2 hg wz5 hbox hb; have BKz2 := Aside0.mk (hbox); have GWz2 := Aside0.mk (gX' hg (hX HB.out)); have GEz2 := Aside0.mk (gX' hg (hX HB.out)); have NBz1 := Aside0.mk (gL hg (bX BKz1.out)); have NBz2 := Aside0.mk (gG hg (bX BKz1.out)); replace HOz1 := Aside0.mk (Kd.R_below (rX HOz1.out) hb); replace HOz2 := Aside0.mk (Kd.R_below (rX HOz2.out) hb); replace HOz3 := Aside0.mk (Kd.R_below (rX HOz3.out) hb); replace BKz1 := Aside0.mk (blk_below (bX BKz1.out) hb); replace HB := Aside0.mk (below_step (hX HB.out) hb); clear hb hbox hg; obtain ⟨Aoz2, coz2, eoz2⟩ := Kd.R_slice HOz3.out; subst eoz2; have hnbz1 := NBz2.out; have hncz1 := NBz1.out; obtain ⟨hczz3, hczz4, hfzz3, hfzz4⟩ := cZ2 BKz2.out) | ((with_reducible refine gate_callee (f := 34) rfl ?_); refine goesM 34 28 Try.func34 #[.slice A0 l0.length c0] ?_; refine (spec_DrawKeyOf.calls k _ _ l0 t115 t118 t119 _ (by exact Kd.C_below HR0.out (hX HB.out)) HC0.out A7.out).mono ?_; rintro e wz6 ⟨vz4, rfl, hoz1, hb⟩; refine ⟨_, rfl, ?_⟩; have HOz4 := Aside0.mk (Kd.R_lower (Kd.R_new' (Kd.R_new' (Kd.R_new' hoz1 (Kd.R_lt (rT (h := by exact (Kd.R_mono (Kd.R_far (p := ⟨gbz2, 1, none⟩) (Kd.R_far (p := ⟨gbz2, 0, none⟩) (Kd.R_types HOz1.out BKz2.out (by decide)) (fun _ hk => hk.2) (.slice Aoz2 t110.length coz2)) (fun _ hk => hk.2) (.int .i64 t113)) (fun _ h_ => h_.1)))))) (Kd.R_lt (rT (h := by exact (Kd.R_mono (Kd.R_far (p := ⟨gbz2, 1, none⟩) (Kd.R_far (p := ⟨gbz2, 0, none⟩) (Kd.R_types HOz2.out BKz2.out (by decide)) (fun _ hk => hk.2) (.slice Aoz2 t110.length coz2)) (fun _ hk => hk.2) (.int .i64 t113)) (fun _ h_ => h_.1)))))) (Kd.R_lt (rT (h := by exact (Kd.R_mono (Kd.R_far (p := ⟨gbz2, 1, none⟩) (Kd.R_far (p := ⟨gbz2, 0, none⟩) (Kd.R_types HOz3.out BKz2.out (by decide)) (fun _ hk => hk.2) (.slice Aoz2 t110.length coz2)) (fun _ hk => hk.2) (.int .i64 t113)) (fun _ h_ => h_.1)))))) (below_size (hX HB.out))); replace HOz1 := Aside0.mk (Kd.R_elder' (rT (h := by exact (Kd.R_mono (Kd.R_far (p := ⟨gbz2, 1, none⟩) (Kd.R_far (p := ⟨gbz2, 0, none⟩) (Kd.R_types HOz1.out BKz2.out (by decide)) (fun _ hk => hk.2) (.slice Aoz2 t110.length coz2)) (fun _ hk => hk.2) (.int .i64 t113)) (fun _ h_ => h_.1)))) (Kd.R_base hoz1) hb); replace HOz2 := Aside0.mk (Kd.R_elder' (rT (h := by exact (Kd.R_mono (Kd.R_far (p := ⟨gbz2, 1, none⟩) (Kd.R_far (p := ⟨gbz2, 0, none⟩) (Kd.R_types HOz2.out BKz2.out (by decide)) (fun _ hk => hk.2) (.slice Aoz2 t110.length coz2)) (fun _ hk => hk.2) (.int .i64 t113)) (fun _ h_ => h_.1)))) (Kd.R_base hoz1) hb); replace HOz3 := Aside0.mk (Kd.R_elder' (rT (h := by exact (Kd.R_mono (Kd.R_far (p := ⟨gbz2, 1, none⟩) (Kd.R_far (p := ⟨gbz2, 0, none⟩) (Kd.R_types HOz3.out BKz2.out (by decide)) (fun _ hk => hk.2) (.slice Aoz2 t110.length coz2)) (fun _ hk => hk.2) (.int .i64 t113)) (fun _ h_ => h_.1)))) (Kd.R_base hoz1) hb); replace BKz1 := Aside0.mk (blk_below (bF BKz1.out) hb); replace BKz2 := Aside0.mk (blk_below (g := gbz2) (o := .cells #[.slice Aoz2 t110.length coz2, .int .i64 t113] 24 (0, 0)) (bP BKz2.out) hb); replace HB := Aside0.mk (below_step (hX HB.out) hb); clear hb hoz1) | ((with_reducible refine gate_dst (N := 6) rfl ?_); refine boxE 6 #[.slice none 0 0, .int .i64 0] 24 ?_; intro gbz3 hg wz7 hbox hb; have BKz3 := Aside0.mk (hbox); have GWz3 := Aside0.mk (gX' hg (hX HB.out)); have GEz3 := Aside0.mk (gX' hg (hX HB.out)); have NBz3 := Aside0.mk (gL hg (bX BKz1.out)); have NBz4 := Aside0.mk (gG hg (bX BKz1.out)); have NBz5 := Aside0.mk (gL hg (bX BKz2.out)); have NBz6 := Aside0.mk (gG hg (bX BKz2.out)); replace HOz1 := Aside0.mk (Kd.R_below (rX HOz1.out) hb); replace HOz2 := Aside0.mk (Kd.R_below (rX HOz2.out) hb); replace HOz3 := Aside0.mk (Kd.R_below (rX HOz3.out) hb); replace HOz4 := Aside0.mk (Kd.R_below (rX HOz4.out) hb); replace BKz1 := Aside0.mk (blk_below (bX BKz1.out) hb); replace BKz2 := Aside0.mk (blk_below (bX BKz2.out) hb); replace HB := Aside0.mk (below_step (hX HB.out) hb); clear hb hbox hg; obtain ⟨Aoz3, coz3, eoz3⟩ := Kd.R_slice HOz4.out; subst eoz3; have hnbz2 := NBz4.out; have hncz2 := NBz3.out; have hnbz3 := NBz6.out; have hncz3 := NBz5.out; obtain ⟨hczz5, hczz6, hfzz5, hfzz6⟩ := cZ2 BKz3.out) | ((with_reducible refine gate_callee (f := 35) rfl ?_); refine goesM 35 33 Try.func35 #[.slice A0 l0.length c0] ?_; refine (spec_DrawHowMany.calls k _ _ l0 t121 t124 t125 _ (by exact Kd.C_below HR0.out (hX HB.out)) HC0.out A8.out).mono ?_; rintro e wz8 ⟨vz5, rfl, hoz1, hb⟩; refine ⟨_, rfl, ?_⟩; have HOz5 := Aside0.mk (Kd.R_lower (Kd.R_new' (Kd.R_new' (Kd.R_new' (Kd.R_new' hoz1 (Kd.R_lt (rT (h := by exact (Kd.R_mono (Kd.R_far (p := ⟨gbz3, 1, none⟩) (Kd.R_far (p := ⟨gbz3, 0, none⟩) (Kd.R_types HOz1.out BKz3.out (by decide)) (fun _ hk => hk.2) (.slice Aoz3 t115.length coz3)) (fun _ hk => hk.2) (.int .i64 t118)) (fun _ h_ => h_.1)))))) (Kd.R_lt (rT (h := by exact (Kd.R_mono (Kd.R_far (p := ⟨gbz3, 1, none⟩) (Kd.R_far (p := ⟨gbz3, 0, none⟩) (Kd.R_types HOz2.out BKz3.out (by decide)) (fun _ hk => hk.2) (.slice Aoz3 t115.length coz3)) (fun _ hk => hk.2) (.int .i64 t118)) (fun _ h_ => h_.1)))))) (Kd.R_lt (rT (h := by exact (Kd.R_mono (Kd.R_far (p := ⟨gbz3, 1, none⟩) (Kd.R_far (p := ⟨gbz3, 0, none⟩) (Kd.R_types HOz3.out BKz3.out (by decide)) (fun _ hk => hk.2) (.slice Aoz3 t115.length coz3)) (fun _ hk => hk.2) (.int .i64 t118)) (fun _ h_ => h_.1)))))) (Kd.R_lt (rT (h := by exact (Kd.R_mono (Kd.R_far (p := ⟨gbz3, 1, none⟩) (Kd.R_far (p := ⟨gbz3, 0, none⟩) (Kd.R_types HOz4.out BKz3.out (by decide)) (fun _ hk => hk.2) (.slice Aoz3 t115.length coz3)) (fun _ hk => hk.2) (.int .i64 t118)) (fun _ h_ => h_.1)))))) (below_size (hX HB.out))); replace HOz1 := Aside0.mk (Kd.R_elder' (rT (h := by exact (Kd.R_mono (Kd.R_far (p := ⟨gbz3, 1, none⟩) (Kd.R_far (p := ⟨gbz3, 0, none⟩) (Kd.R_types HOz1.out BKz3.out (by decide)) (fun _ hk => hk.2) (.slice Aoz3 t115.length coz3)) (fun _ hk => hk.2) (.int .i64 t118)) (fun _ h_ => h_.1)))) (Kd.R_base hoz1) hb); replace HOz2 := Aside0.mk (Kd.R_elder' (rT (h := by exact (Kd.R_mono (Kd.R_far (p := ⟨gbz3, 1, none⟩) (Kd.R_far (p := ⟨gbz3, 0, none⟩) (Kd.R_types HOz2.out BKz3.out (by decide)) (fun _ hk => hk.2) (.slice Aoz3 t115.length coz3)) (fun _ hk => hk.2) (.int .i64 t118)) (fun _ h_ => h_.1)))) (Kd.R_base hoz1) hb); replace HOz3 := Aside0.mk (Kd.R_elder' (rT (h := by exact (Kd.R_mono (Kd.R_far (p := ⟨gbz3, 1, none⟩) (Kd.R_far (p := ⟨gbz3, 0, none⟩) (Kd.R_types HOz3.out BKz3.out (by decide)) (fun _ hk => hk.2) (.slice Aoz3 t115.length coz3)) (fun _ hk => hk.2) (.int .i64 t118)) (fun _ h_ => h_.1)))) (Kd.R_base hoz1) hb); replace HOz4 := Aside0.mk (Kd.R_elder' (rT (h := by exact (Kd.R_mono (Kd.R_far (p := ⟨gbz3, 1, none⟩) (Kd.R_far (p := ⟨gbz3, 0, none⟩) (Kd.R_types HOz4.out BKz3.out (by decide)) (fun _ hk => hk.2) (.slice Aoz3 t115.length coz3)) (fun _ hk => hk.2) (.int .i64 t118)) (fun _ h_ => h_.1)))) (Kd.R_base hoz1) hb); replace BKz1 := Aside0.mk (blk_below (bF BKz1.out) hb); replace BKz2 := Aside0.mk (blk_below (bF BKz2.out) hb); replace BKz3 := Aside0.mk (blk_below (g := gbz3) (o := .cells #[.slice Aoz3 t115.length coz3, .int .i64 t118] 24 (0, 0)) (bP BKz3.out) hb); replace HB := Aside0.mk (below_step (hX HB.out) hb); clear hb hoz1) | ((with_reducible refine gate_dst (N := 8) rfl ?_); refine boxE 8 #[.slice none 0 0, .int .i64 0] 24 ?_; intro gbz4 hg wz9 hbox hb; have BKz4 := Aside0.mk (hbox); have GWz4 := Aside0.mk (gX' hg (hX HB.out)); have GEz4 := Aside0.mk (gX' hg (hX HB.out)); have NBz7 := Aside0.mk (gL hg (bX BKz1.out)); have NBz8 := Aside0.mk (gG hg (bX BKz1.out)); have NBz9 := Aside0.mk (gL hg (bX BKz2.out)); have NBz10 := Aside0.mk (gG hg (bX BKz2.out)); have NBz11 := Aside0.mk (gL hg (bX BKz3.out)); have NBz12 := Aside0.mk (gG hg (bX BKz3.out)); replace HOz1 := Aside0.mk (Kd.R_below (rX HOz1.out) hb); replace HOz2 := Aside0.mk (Kd.R_below (rX HOz2.out) hb); replace HOz3 := Aside0.mk (Kd.R_below (rX HOz3.out) hb); replace HOz4 := Aside0.mk (Kd.R_below (rX HOz4.out) hb); replace HOz5 := Aside0.mk (Kd.R_below (rX HOz5.out) hb); replace BKz1 := Aside0.mk (blk_below (bX BKz1.out) hb); replace BKz2 := Aside0.mk (blk_below (bX BKz2.out) hb); replace BKz3 := Aside0.mk (blk_below (bX BKz3.out) hb); replace HB := Aside0.mk (below_step (hX HB.out) hb); clear hb hbox hg; obtain ⟨Aoz4, coz4, eoz4⟩ := Kd.R_slice HOz5.out; subst eoz4; have hnbz4 := NBz8.out; have hncz4 := NBz7.out; have hnbz5 := NBz10.out; have hncz5 := NBz9.out; have hnbz6 := NBz12.out; have hncz6 := NBz11.out; obtain ⟨hczz7, hczz8, hfzz7, hfzz8⟩ := cZ2 BKz4.out))
    (try simp only [Act.put, List.setIfInBounds_toArray, List.set_cons_zero, List.set_cons_succ])
    go_cut [65] (fun vz6 wc => ∃ (kq : Nat) (x65_8 : Bool), vz6 = .bool x65_8 ∧ Aside0 (laws_FnRows.j0 kq t107 x65_8 t102 t105 = some r) ∧ Aside0 (kq ≤ k) ∧ Aside0 (Kd.R (Kd.int .i64) 3 wc w.heap.size (fun k_ => some k_ ≠ ((.slice Aoz1 t102.length coz1) : Value).ownBlock ∧ some k_ ≠ ((.slice Aoz2 t110.length coz2) : Value).ownBlock ∧ some k_ ≠ ((.slice Aoz3 t115.length coz3) : Value).ownBlock ∧ some k_ ≠ ((.slice Aoz4 t121.length coz4) : Value).ownBlock) vz2 t107) ∧ Aside0 (Kd.R (Kd.int .i64) 3 wc w.heap.size (fun k_ => some k_ ≠ (vz2 : Value).ownBlock ∧ some k_ ≠ ((.slice Aoz2 t110.length coz2) : Value).ownBlock ∧ some k_ ≠ ((.slice Aoz3 t115.length coz3) : Value).ownBlock ∧ some k_ ≠ ((.slice Aoz4 t121.length coz4) : Value).ownBlock) (.slice Aoz1 t102.length coz1) t102) ∧ Aside0 (Kd.R (Kd.int .i64) 3 wc w.heap.size (fun k_ => some k_ ≠ (vz2 : Value).ownBlock ∧ some k_ ≠ ((.slice Aoz1 t102.length coz1) : Value).ownBlock ∧ some k_ ≠ ((.slice Aoz3 t115.length coz3) : Value).ownBlock ∧ some k_ ≠ ((.slice Aoz4 t121.length coz4) : Value).ownBlock) (.slice Aoz2 t110.length coz2) t110) ∧ Aside0 (Kd.R (Kd.int .i64) 3 wc w.heap.size (fun k_ => some k_ ≠ (vz2 : Value).ownBlock ∧ some k_ ≠ ((.slice Aoz1 t102.length coz1) : Value).ownBlock ∧ some k_ ≠ ((.slice Aoz2 t110.length coz2) : Value).ownBlock ∧ some k_ ≠ ((.slice Aoz4 t121.length coz4) : Value).ownBlock) (.slice Aoz3 t115.length coz3) t115) ∧ Aside0 (Kd.R (Kd.int .i64) 3 wc w.heap.size (fun k_ => some k_ ≠ (vz2 : Value).ownBlock ∧ some k_ ≠ ((.slice Aoz1 t102.length coz1) : Value).ownBlock ∧ some k_ ≠ ((.slice Aoz2 t110.length coz2) : Value).ownBlock ∧ some k_ ≠ ((.slice Aoz3 t115.length coz3) : Value).ownBlock) (.slice Aoz4 t121.length coz4) t121) ∧ Aside0 (wc.heap[gbz1]? = some (.cells #[(.slice Aoz1 t102.length coz1), .int .i64 t105] 24 (0, 0))) ∧ Aside0 (wc.heap[gbz2]? = some (.cells #[(.slice Aoz2 t110.length coz2), .int .i64 t113] 24 (0, 0))) ∧ Aside0 (wc.heap[gbz3]? = some (.cells #[(.slice Aoz3 t115.length coz3), .int .i64 t118] 24 (0, 0))) ∧ Aside0 (wc.heap[gbz4]? = some (.cells #[(.slice Aoz4 t121.length coz4), .int .i64 t124] 24 (0, 0))) ∧ Aside0 (Below w.heap.size w wc))
    case first =>
      have H := HC9.out
      clear HC9
      replace H := bE H; obtain ⟨t127, A33, H⟩ := H
      replace H := bE H; obtain ⟨t130, A34, H⟩ := H
      by_cases c35 : t130 = true
      · subst c35
        rw [if_pos rfl] at H
        replace H := bE H; obtain ⟨t131, A36, H⟩ := H
        replace H := bE H; obtain ⟨t132, A37, H⟩ := H
        by_cases c38 : (t131 != t132) = true
        · rw [if_pos c38] at H
          have c38b0 : (t131 != t132) = true := c38
          (try (have c38b1 : decide (t131 = t132) = false := by simpa using c38))
          (try (have c38b2 : (t131 == t132) = false := by simpa using c38))
          (try (have c38b3 : ¬ (t131 = t132) := by simpa using c38))
          clear c38
          (first | rw [c38b0] | (simp only [i64_w, i32_w]; rw [c38b0]) | skip)
          have H' := Aside0.mk H
          clear H
          try go_wp2
          have ny1 : Aside0 (Kd.R (Kd.int .i64) 3 ((wz9.setCell ⟨gbz4, 0, none⟩ (.slice Aoz4 t121.length coz4)).setCell ⟨gbz4, 1, none⟩ (.int .i64 t124)) w.heap.size (fun k_ => some k_ ≠ (vz2 : Value).ownBlock ∧ some k_ ≠ (.slice Aoz2 t110.length coz2 : Value).ownBlock ∧ some k_ ≠ (.slice Aoz3 t115.length coz3 : Value).ownBlock ∧ some k_ ≠ (.slice Aoz4 t121.length coz4 : Value).ownBlock) (.slice Aoz1 t102.length coz1) t102) := ⟨(rT (h := by exact Kd.R_mono (Kd.R_far (p := ⟨gbz4, 1, none⟩) (Kd.R_far (p := ⟨gbz4, 0, none⟩) (Kd.R_types HOz1.out BKz4.out (by decide)) (fun _ hk => hk.2) (.slice Aoz4 t121.length coz4)) (fun _ hk => hk.2) (.int .i64 t124)) (fun _ hk => ⟨hk.1.1.1.1.2, ⟨hk.1.1.1.2, ⟨hk.1.1.2, hk.1.2⟩⟩⟩)))⟩
          have ny2 : Aside0 (Kd.R (Kd.int .i64) 3 ((wz9.setCell ⟨gbz4, 0, none⟩ (.slice Aoz4 t121.length coz4)).setCell ⟨gbz4, 1, none⟩ (.int .i64 t124)) w.heap.size (fun k_ => some k_ ≠ (.slice Aoz1 t102.length coz1 : Value).ownBlock ∧ some k_ ≠ (.slice Aoz2 t110.length coz2 : Value).ownBlock ∧ some k_ ≠ (.slice Aoz3 t115.length coz3 : Value).ownBlock ∧ some k_ ≠ (.slice Aoz4 t121.length coz4 : Value).ownBlock) vz2 t107) := ⟨(rT (h := by exact Kd.R_mono (Kd.R_far (p := ⟨gbz4, 1, none⟩) (Kd.R_far (p := ⟨gbz4, 0, none⟩) (Kd.R_types HOz2.out BKz4.out (by decide)) (fun _ hk => hk.2) (.slice Aoz4 t121.length coz4)) (fun _ hk => hk.2) (.int .i64 t124)) (fun _ hk => ⟨hk.1.1.1.1.2, ⟨hk.1.1.1.2, ⟨hk.1.1.2, hk.1.2⟩⟩⟩)))⟩
          have ny3 : Aside0 (Kd.R (Kd.int .i64) 3 ((wz9.setCell ⟨gbz4, 0, none⟩ (.slice Aoz4 t121.length coz4)).setCell ⟨gbz4, 1, none⟩ (.int .i64 t124)) w.heap.size (fun k_ => some k_ ≠ (.slice Aoz1 t102.length coz1 : Value).ownBlock ∧ some k_ ≠ (vz2 : Value).ownBlock ∧ some k_ ≠ (.slice Aoz3 t115.length coz3 : Value).ownBlock ∧ some k_ ≠ (.slice Aoz4 t121.length coz4 : Value).ownBlock) (.slice Aoz2 t110.length coz2) t110) := ⟨(rT (h := by exact Kd.R_mono (Kd.R_far (p := ⟨gbz4, 1, none⟩) (Kd.R_far (p := ⟨gbz4, 0, none⟩) (Kd.R_types HOz3.out BKz4.out (by decide)) (fun _ hk => hk.2) (.slice Aoz4 t121.length coz4)) (fun _ hk => hk.2) (.int .i64 t124)) (fun _ hk => ⟨hk.1.1.1.1.2, ⟨hk.1.1.1.2, ⟨hk.1.1.2, hk.1.2⟩⟩⟩)))⟩
          have ny4 : Aside0 (Kd.R (Kd.int .i64) 3 ((wz9.setCell ⟨gbz4, 0, none⟩ (.slice Aoz4 t121.length coz4)).setCell ⟨gbz4, 1, none⟩ (.int .i64 t124)) w.heap.size (fun k_ => some k_ ≠ (.slice Aoz1 t102.length coz1 : Value).ownBlock ∧ some k_ ≠ (vz2 : Value).ownBlock ∧ some k_ ≠ (.slice Aoz2 t110.length coz2 : Value).ownBlock ∧ some k_ ≠ (.slice Aoz4 t121.length coz4 : Value).ownBlock) (.slice Aoz3 t115.length coz3) t115) := ⟨(rT (h := by exact Kd.R_mono (Kd.R_far (p := ⟨gbz4, 1, none⟩) (Kd.R_far (p := ⟨gbz4, 0, none⟩) (Kd.R_types HOz4.out BKz4.out (by decide)) (fun _ hk => hk.2) (.slice Aoz4 t121.length coz4)) (fun _ hk => hk.2) (.int .i64 t124)) (fun _ hk => ⟨hk.1.1.1.1.2, ⟨hk.1.1.1.2, ⟨hk.1.1.2, hk.1.2⟩⟩⟩)))⟩
          have ny5 : Aside0 (Kd.R (Kd.int .i64) 3 ((wz9.setCell ⟨gbz4, 0, none⟩ (.slice Aoz4 t121.length coz4)).setCell ⟨gbz4, 1, none⟩ (.int .i64 t124)) w.heap.size (fun k_ => some k_ ≠ (.slice Aoz1 t102.length coz1 : Value).ownBlock ∧ some k_ ≠ (vz2 : Value).ownBlock ∧ some k_ ≠ (.slice Aoz2 t110.length coz2 : Value).ownBlock ∧ some k_ ≠ (.slice Aoz3 t115.length coz3 : Value).ownBlock) (.slice Aoz4 t121.length coz4) t121) := ⟨(rT (h := by exact Kd.R_mono (Kd.R_far (p := ⟨gbz4, 1, none⟩) (Kd.R_far (p := ⟨gbz4, 0, none⟩) (Kd.R_types HOz5.out BKz4.out (by decide)) (fun _ hk => hk.2) (.slice Aoz4 t121.length coz4)) (fun _ hk => hk.2) (.int .i64 t124)) (fun _ hk => ⟨hk.1.1.1.1.2, ⟨hk.1.1.1.2, ⟨hk.1.1.2, hk.1.2⟩⟩⟩)))⟩
          have ny6 : Aside0 (((wz9.setCell ⟨gbz4, 0, none⟩ (.slice Aoz4 t121.length coz4)).setCell ⟨gbz4, 1, none⟩ (.int .i64 t124)).heap[gbz1]? = some (.cells #[.slice Aoz1 t102.length coz1, .int .i64 t105] 24 (0, 0))) := ⟨(bF BKz1.out)⟩
          have ny7 : Aside0 (((wz9.setCell ⟨gbz4, 0, none⟩ (.slice Aoz4 t121.length coz4)).setCell ⟨gbz4, 1, none⟩ (.int .i64 t124)).heap[gbz2]? = some (.cells #[.slice Aoz2 t110.length coz2, .int .i64 t113] 24 (0, 0))) := ⟨(bF BKz2.out)⟩
          have ny8 : Aside0 (((wz9.setCell ⟨gbz4, 0, none⟩ (.slice Aoz4 t121.length coz4)).setCell ⟨gbz4, 1, none⟩ (.int .i64 t124)).heap[gbz3]? = some (.cells #[.slice Aoz3 t115.length coz3, .int .i64 t118] 24 (0, 0))) := ⟨(bF BKz3.out)⟩
          have ny9 : Aside0 (((wz9.setCell ⟨gbz4, 0, none⟩ (.slice Aoz4 t121.length coz4)).setCell ⟨gbz4, 1, none⟩ (.int .i64 t124)).heap[gbz4]? = some (.cells #[.slice Aoz4 t121.length coz4, .int .i64 t124] 24 (0, 0))) := ⟨(bP BKz4.out)⟩
          have ny10 : Aside0 (Below w.heap.size w ((wz9.setCell ⟨gbz4, 0, none⟩ (.slice Aoz4 t121.length coz4)).setCell ⟨gbz4, 1, none⟩ (.int .i64 t124))) := ⟨(hX HB.out)⟩
          (try clear HOz1)
          (try clear HOz2)
          (try clear HOz3)
          (try clear HOz4)
          (try clear HOz5)
          (try clear BKz1)
          (try clear BKz2)
          (try clear BKz3)
          (try clear BKz4)
          (try clear HB)
          generalize ((wz9.setCell ⟨gbz4, 0, none⟩ (.slice Aoz4 t121.length coz4)).setCell ⟨gbz4, 1, none⟩ (.int .i64 t124)) = wy1 at ny1 ny2 ny3 ny4 ny5 ny6 ny7 ny8 ny9 ny10 ⊢
          have HOz1 := ny1
          have HOz2 := ny2
          have HOz3 := ny3
          have HOz4 := ny4
          have HOz5 := ny5
          have BKz1 := ny6
          have BKz2 := ny7
          have BKz3 := ny8
          have BKz4 := ny9
          have HB := ny10
          clear ny1 ny2 ny3 ny4 ny5 ny6 ny7 ny8 ny9 ny10
          replace HOz1 := Aside0.mk (Kd.R_drew HOz1.out)
          replace HOz2 := Aside0.mk (Kd.R_drew HOz2.out)
          replace HOz3 := Aside0.mk (Kd.R_drew HOz3.out)
          replace HOz4 := Aside0.mk (Kd.R_drew HOz4.out)
          replace HOz5 := Aside0.mk (Kd.R_drew HOz5.out)
          replace BKz1 := Aside0.mk (blk_drew BKz1.out)
          replace BKz2 := Aside0.mk (blk_drew BKz2.out)
          replace BKz3 := Aside0.mk (blk_drew BKz3.out)
          replace BKz4 := Aside0.mk (blk_drew BKz4.out)
          replace HB := Aside0.mk (below_drew1 HB.out)
          refine start_ (n := 30) (S := fun w' => w'.cell? ⟨gbz1, 0, none⟩ = some (.slice Aoz1 t102.length coz1) ∧ w'.cell? ⟨gbz1, 1, none⟩ = some (.int .i64 t105) ∧ w'.cell? ⟨gbz2, 0, none⟩ = some (.slice Aoz2 t110.length coz2) ∧ w'.cell? ⟨gbz2, 1, none⟩ = some (.int .i64 t113)) (ds := []) (bm 30 0) (by kernel_rfl) rfl (by kernel_rfl) ⟨cK BKz1.out 0, cK BKz1.out 1, cK BKz2.out 0, cK BKz2.out 1⟩ (fun hHeld => ?_); refine with_tabW laws_FnRows.tab8 laws_FnRows.bits8 (fun HT_ HW_ => ?_)
          generalize wy1.drew = wy2 at HOz1 HOz2 HOz3 HOz4 HOz5 BKz1 BKz2 BKz3 BKz4 HB hHeld ⊢
          refine pZ 0 36 (bm 30 1) HT_.out ?_
          refine tZ 1 37 (bm 30 3) HT_.out HW_.out hHeld ?_
          refine oZ 2 (some 38) (bm 30 7) HT_.out (fun K hK => ?_)
          refine goesN Try.func37 #[.agg #[.slice Aoz1 t102.length coz1, .int .i64 t105]] ?_
          with_reducible refine (spec_WordsOf.calls k _ _ t102 t105 t127 _ ?side1 ?side2 A33.out).mono ?_
          (case side1 => repeat (first | exact (Kd.R_reads' HOz1.out).2.2 | (with_reducible refine Kd.C_alloc ?_ _) | (with_reducible refine Kd.C_drewN ?_ _) | (with_reducible refine Kd.C_drew ?_)))
          (case side2 => exact (Kd.R_reads' HOz1.out).2.1)
          rintro e wy3 ⟨vy1, rfl, hoz1, hb⟩
          refine ⟨_, rfl, ?_⟩
          have HOy1 := Aside0.mk (Kd.R_lower (Kd.R_new' (Kd.R_new' (Kd.R_new' (Kd.R_new' (Kd.R_new' hoz1 (Kd.R_lt (rX HOz1.out))) (Kd.R_lt (rX HOz2.out))) (Kd.R_lt (rX HOz3.out))) (Kd.R_lt (rX HOz4.out))) (Kd.R_lt (rX HOz5.out))) (below_size (hX HB.out)))
          replace HOz1 := Aside0.mk (Kd.R_elder' (rX HOz1.out) (Kd.R_base hoz1) hb)
          replace HOz2 := Aside0.mk (Kd.R_elder' (rX HOz2.out) (Kd.R_base hoz1) hb)
          replace HOz3 := Aside0.mk (Kd.R_elder' (rX HOz3.out) (Kd.R_base hoz1) hb)
          replace HOz4 := Aside0.mk (Kd.R_elder' (rX HOz4.out) (Kd.R_base hoz1) hb)
          replace HOz5 := Aside0.mk (Kd.R_elder' (rX HOz5.out) (Kd.R_base hoz1) hb)
          replace BKz1 := Aside0.mk (blk_below (bX BKz1.out) hb)
          replace BKz2 := Aside0.mk (blk_below (bX BKz2.out) hb)
          replace BKz3 := Aside0.mk (blk_below (bX BKz3.out) hb)
          replace BKz4 := Aside0.mk (blk_below (bX BKz4.out) hb)
          replace HB := Aside0.mk (below_step (hX HB.out) hb)
          (try clear hb)
          (try clear hb2)
          (try clear hk)
          (try clear hi)
          (try clear hoz1)
          obtain ⟨Aoy1, coy1, eoy1⟩ := Kd.R_slice HOz2.out
          (first | subst eoy1 | (injection eoy1 with f1_ f2_ f3_; have fy1 := f1_.symm; have fy2 := f3_.symm; clear f1_ f2_ f3_; subst fy1; subst fy2))
          obtain ⟨Aoy2, coy2, eoy2⟩ := Kd.R_slice HOy1.out
          (first | subst eoy2 | (injection eoy2 with f1_ f2_ f3_; have fy1 := f1_.symm; have fy2 := f3_.symm; clear f1_ f2_ f3_; subst fy1; subst fy2))
          refine hK.out _ _ ⟨cK BKz1.out 0, cK BKz1.out 1, cK BKz2.out 0, cK BKz2.out 1⟩ (fun hHeld => ?_)
          clear hK K
          refine nZ 38 ?_
          refine oZ 3 (some 39) (bm 30 15) HT_.out (fun K hK => ?_)
          refine goesN Try.func36 #[.slice Aoy1 t107.length coy1, .slice Aoy2 t127.length coy2] ?_
          with_reducible refine (laws_sameInts.calls k _ _ t107 _ _ t127 true _ ?side1 ?side2 ?side3 ?side4 A34.out).mono ?_
          (case side1 => repeat (first | exact (Kd.R_reads' HOz2.out).2.2 | (with_reducible refine Kd.C_alloc ?_ _) | (with_reducible refine Kd.C_drewN ?_ _) | (with_reducible refine Kd.C_drew ?_)))
          (case side2 => exact (Kd.R_reads' HOz2.out).2.1)
          (case side3 => repeat (first | exact (Kd.R_reads' HOy1.out).2.2 | (with_reducible refine Kd.C_alloc ?_ _) | (with_reducible refine Kd.C_drewN ?_ _) | (with_reducible refine Kd.C_drew ?_)))
          (case side4 => exact (Kd.R_reads' HOy1.out).2.1)
          rintro e w' ⟨rfl, ⟨nd, rfl⟩⟩
          refine ⟨_, rfl, ?_⟩
          refine hK.out _ _ ⟨cK BKz1.out 0, cK BKz1.out 1, cK BKz2.out 0, cK BKz2.out 1⟩ (fun hHeld => ?_)
          clear hK K
          refine nZ 39 ?_
          refine pZ 4 40 (bm 30 31) HT_.out ?_
          refine pZ 5 41 (bm 30 63) HT_.out ?_
          refine tZ 6 42 (bm 30 127) HT_.out HW_.out hHeld ?_
          refine tZ 8 44 (bm 30 383) HT_.out HW_.out hHeld ?_
          refine oZ 7 (some 43) (bm 30 511) HT_.out (fun K hK => ?_)
          refine goesN Try.func38 #[.agg #[.slice Aoz2 t110.length coz2, .int .i64 t113]] ?_
          with_reducible refine (impl_RowsOk.calls k _ _ t110 t113 t131 _ ?side1 ?side2 A36.out).mono ?_
          (case side1 => repeat (first | exact (Kd.R_reads' HOz3.out).2.2 | (with_reducible refine Kd.C_alloc ?_ _) | (with_reducible refine Kd.C_drewN ?_ _) | (with_reducible refine Kd.C_drew ?_)))
          (case side2 => exact (Kd.R_reads' HOz3.out).2.1)
          rintro e wy4 ⟨rfl, hb⟩
          refine ⟨_, rfl, ?_⟩
          replace HOz1 := Aside0.mk (Kd.R_below (rX HOz1.out) hb)
          replace HOz2 := Aside0.mk (Kd.R_below (rX HOz2.out) hb)
          replace HOz3 := Aside0.mk (Kd.R_below (rX HOz3.out) hb)
          replace HOz4 := Aside0.mk (Kd.R_below (rX HOz4.out) hb)
          replace HOz5 := Aside0.mk (Kd.R_below (rX HOz5.out) hb)
          replace HOy1 := Aside0.mk (Kd.R_below (rX HOy1.out) hb)
          replace BKz1 := Aside0.mk (blk_below (bX BKz1.out) hb)
          replace BKz2 := Aside0.mk (blk_below (bX BKz2.out) hb)
          replace BKz3 := Aside0.mk (blk_below (bX BKz3.out) hb)
          replace BKz4 := Aside0.mk (blk_below (bX BKz4.out) hb)
          replace HB := Aside0.mk (below_step (hX HB.out) hb)
          (try clear hb)
          (try clear hb2)
          (try clear hk)
          (try clear hi)
          refine hK.out _ _ ⟨cK BKz1.out 0, cK BKz1.out 1, cK BKz2.out 0, cK BKz2.out 1⟩ (fun hHeld => ?_)
          clear hK K
          refine nZ 43 ?_
          refine oZ 9 (some 45) (bm 30 1023) HT_.out (fun K hK => ?_)
          refine goesN Try.func39 #[.agg #[.slice Aoz2 t110.length coz2, .int .i64 t113]] ?_
          with_reducible refine (spec_RowsOk.calls k _ _ t110 t113 t132 _ ?side1 ?side2 A37.out).mono ?_
          (case side1 => repeat (first | exact (Kd.R_reads' HOz3.out).2.2 | (with_reducible refine Kd.C_alloc ?_ _) | (with_reducible refine Kd.C_drewN ?_ _) | (with_reducible refine Kd.C_drew ?_)))
          (case side2 => exact (Kd.R_reads' HOz3.out).2.1)
          rintro e wy5 ⟨rfl, hb⟩
          refine ⟨_, rfl, ?_⟩
          replace HOz1 := Aside0.mk (Kd.R_below (rX HOz1.out) hb)
          replace HOz2 := Aside0.mk (Kd.R_below (rX HOz2.out) hb)
          replace HOz3 := Aside0.mk (Kd.R_below (rX HOz3.out) hb)
          replace HOz4 := Aside0.mk (Kd.R_below (rX HOz4.out) hb)
          replace HOz5 := Aside0.mk (Kd.R_below (rX HOz5.out) hb)
          replace HOy1 := Aside0.mk (Kd.R_below (rX HOy1.out) hb)
          replace BKz1 := Aside0.mk (blk_below (bX BKz1.out) hb)
          replace BKz2 := Aside0.mk (blk_below (bX BKz2.out) hb)
          replace BKz3 := Aside0.mk (blk_below (bX BKz3.out) hb)
          replace BKz4 := Aside0.mk (blk_below (bX BKz4.out) hb)
          replace HB := Aside0.mk (below_step (hX HB.out) hb)
          (try clear hb)
          (try clear hb2)
          (try clear hk)
          (try clear hi)
          refine hK.out _ _ ⟨cK BKz1.out 0, cK BKz1.out 1, cK BKz2.out 0, cK BKz2.out 1⟩ (fun hHeld => ?_)
          clear hK K
          refine nZ 45 ?_
          refine pZ 10 46 (bm 30 2047) HT_.out ?_
          refine pZ 11 47 (bm 30 4095) HT_.out ?_
          refine pZ 12 48 (bm 30 8191) HT_.out ?_
          refine pU 13 49 (bm 30 16383) HT_.out ?_
          refine pU 14 50 (bm 30 32767) HT_.out ?_
          refine pU 15 51 (bm 30 65535) HT_.out ?_
          refine pU 16 52 (bm 30 131071) HT_.out ?_
          refine pU 17 53 (bm 30 262143) HT_.out ?_
          refine pU 18 54 (bm 30 524287) HT_.out ?_
          refine pU 19 55 (bm 30 1048575) HT_.out ?_
          refine pZ 20 56 (bm 30 2097151) HT_.out ?_
          refine pZ 21 57 (bm 30 4194303) HT_.out ?_
          refine pU 22 58 (bm 30 8388607) HT_.out ?_
          refine pU 23 59 (bm 30 16777215) HT_.out ?_
          refine pU 24 60 (bm 30 33554431) HT_.out ?_
          refine pU 25 61 (bm 30 67108863) HT_.out ?_
          refine pU 26 62 (bm 30 134217727) HT_.out ?_
          refine pU 27 63 (bm 30 268435455) HT_.out ?_
          refine pU 28 64 (bm 30 536870911) HT_.out ?_
          refine pZ 29 65 (bm 30 1073741823) HT_.out ?_
          refine done_ (done_of HT_.out (by kernel_rfl)) ?_
          try go_wp2
          go_meet
          case rel => exact ⟨_, (true), rS, H', ⟨by first | omega | exact Nat.le_refl _⟩, ⟨(rT (h := by exact Kd.R_mono HOz2.out (fun _ hk => ⟨hk.1.1, ⟨hk.1.2.1, ⟨hk.1.2.2.1, hk.1.2.2.2⟩⟩⟩)))⟩, ⟨(rT (h := by exact Kd.R_mono HOz1.out (fun _ hk => ⟨hk.1.1, ⟨hk.1.2.1, ⟨hk.1.2.2.1, hk.1.2.2.2⟩⟩⟩)))⟩, ⟨(rT (h := by exact Kd.R_mono HOz3.out (fun _ hk => ⟨hk.1.2.1, ⟨hk.1.1, ⟨hk.1.2.2.1, hk.1.2.2.2⟩⟩⟩)))⟩, ⟨(rT (h := by exact Kd.R_mono HOz4.out (fun _ hk => ⟨hk.1.2.1, ⟨hk.1.1, ⟨hk.1.2.2.1, hk.1.2.2.2⟩⟩⟩)))⟩, ⟨(rT (h := by exact Kd.R_mono HOz5.out (fun _ hk => ⟨hk.1.2.1, ⟨hk.1.1, ⟨hk.1.2.2.1, hk.1.2.2.2⟩⟩⟩)))⟩, ⟨(bX BKz1.out)⟩, ⟨(bX BKz2.out)⟩, ⟨(bX BKz3.out)⟩, ⟨(bX BKz4.out)⟩, ⟨(hX HB.out)⟩⟩
        · rw [if_neg c38] at H
          have c38b0 : (t131 != t132) = false := by simpa using c38
          (try (have c38b1 : decide (t131 = t132) = true := by simpa using c38))
          (try (have c38b2 : (t131 == t132) = true := by simpa using c38))
          clear c38
          (first | rw [c38b0] | (simp only [i64_w, i32_w]; rw [c38b0]) | skip)
          replace H := bE H; obtain ⟨t133, A46, H⟩ := H
          replace H := bE H; obtain ⟨t134, A47, H⟩ := H
          by_cases c48 : t133 = t134
          · rw [if_pos c48] at H
            obtain ⟨c48b0, c48b1⟩ := eqT c48
            clear c48
            replace H := bE H; obtain ⟨t135, A49, H⟩ := H
            replace H := bE H; obtain ⟨t136, A50, H⟩ := H
            have H' := Aside0.mk H
            clear H
            try go_wp2
            have ny1 : Aside0 (Kd.R (Kd.int .i64) 3 ((wz9.setCell ⟨gbz4, 0, none⟩ (.slice Aoz4 t121.length coz4)).setCell ⟨gbz4, 1, none⟩ (.int .i64 t124)) w.heap.size (fun k_ => some k_ ≠ (vz2 : Value).ownBlock ∧ some k_ ≠ (.slice Aoz2 t110.length coz2 : Value).ownBlock ∧ some k_ ≠ (.slice Aoz3 t115.length coz3 : Value).ownBlock ∧ some k_ ≠ (.slice Aoz4 t121.length coz4 : Value).ownBlock) (.slice Aoz1 t102.length coz1) t102) := ⟨(rT (h := by exact Kd.R_mono (Kd.R_far (p := ⟨gbz4, 1, none⟩) (Kd.R_far (p := ⟨gbz4, 0, none⟩) (Kd.R_types HOz1.out BKz4.out (by decide)) (fun _ hk => hk.2) (.slice Aoz4 t121.length coz4)) (fun _ hk => hk.2) (.int .i64 t124)) (fun _ hk => ⟨hk.1.1.1.1.2, ⟨hk.1.1.1.2, ⟨hk.1.1.2, hk.1.2⟩⟩⟩)))⟩
            have ny2 : Aside0 (Kd.R (Kd.int .i64) 3 ((wz9.setCell ⟨gbz4, 0, none⟩ (.slice Aoz4 t121.length coz4)).setCell ⟨gbz4, 1, none⟩ (.int .i64 t124)) w.heap.size (fun k_ => some k_ ≠ (.slice Aoz1 t102.length coz1 : Value).ownBlock ∧ some k_ ≠ (.slice Aoz2 t110.length coz2 : Value).ownBlock ∧ some k_ ≠ (.slice Aoz3 t115.length coz3 : Value).ownBlock ∧ some k_ ≠ (.slice Aoz4 t121.length coz4 : Value).ownBlock) vz2 t107) := ⟨(rT (h := by exact Kd.R_mono (Kd.R_far (p := ⟨gbz4, 1, none⟩) (Kd.R_far (p := ⟨gbz4, 0, none⟩) (Kd.R_types HOz2.out BKz4.out (by decide)) (fun _ hk => hk.2) (.slice Aoz4 t121.length coz4)) (fun _ hk => hk.2) (.int .i64 t124)) (fun _ hk => ⟨hk.1.1.1.1.2, ⟨hk.1.1.1.2, ⟨hk.1.1.2, hk.1.2⟩⟩⟩)))⟩
            have ny3 : Aside0 (Kd.R (Kd.int .i64) 3 ((wz9.setCell ⟨gbz4, 0, none⟩ (.slice Aoz4 t121.length coz4)).setCell ⟨gbz4, 1, none⟩ (.int .i64 t124)) w.heap.size (fun k_ => some k_ ≠ (.slice Aoz1 t102.length coz1 : Value).ownBlock ∧ some k_ ≠ (vz2 : Value).ownBlock ∧ some k_ ≠ (.slice Aoz3 t115.length coz3 : Value).ownBlock ∧ some k_ ≠ (.slice Aoz4 t121.length coz4 : Value).ownBlock) (.slice Aoz2 t110.length coz2) t110) := ⟨(rT (h := by exact Kd.R_mono (Kd.R_far (p := ⟨gbz4, 1, none⟩) (Kd.R_far (p := ⟨gbz4, 0, none⟩) (Kd.R_types HOz3.out BKz4.out (by decide)) (fun _ hk => hk.2) (.slice Aoz4 t121.length coz4)) (fun _ hk => hk.2) (.int .i64 t124)) (fun _ hk => ⟨hk.1.1.1.1.2, ⟨hk.1.1.1.2, ⟨hk.1.1.2, hk.1.2⟩⟩⟩)))⟩
            have ny4 : Aside0 (Kd.R (Kd.int .i64) 3 ((wz9.setCell ⟨gbz4, 0, none⟩ (.slice Aoz4 t121.length coz4)).setCell ⟨gbz4, 1, none⟩ (.int .i64 t124)) w.heap.size (fun k_ => some k_ ≠ (.slice Aoz1 t102.length coz1 : Value).ownBlock ∧ some k_ ≠ (vz2 : Value).ownBlock ∧ some k_ ≠ (.slice Aoz2 t110.length coz2 : Value).ownBlock ∧ some k_ ≠ (.slice Aoz4 t121.length coz4 : Value).ownBlock) (.slice Aoz3 t115.length coz3) t115) := ⟨(rT (h := by exact Kd.R_mono (Kd.R_far (p := ⟨gbz4, 1, none⟩) (Kd.R_far (p := ⟨gbz4, 0, none⟩) (Kd.R_types HOz4.out BKz4.out (by decide)) (fun _ hk => hk.2) (.slice Aoz4 t121.length coz4)) (fun _ hk => hk.2) (.int .i64 t124)) (fun _ hk => ⟨hk.1.1.1.1.2, ⟨hk.1.1.1.2, ⟨hk.1.1.2, hk.1.2⟩⟩⟩)))⟩
            have ny5 : Aside0 (Kd.R (Kd.int .i64) 3 ((wz9.setCell ⟨gbz4, 0, none⟩ (.slice Aoz4 t121.length coz4)).setCell ⟨gbz4, 1, none⟩ (.int .i64 t124)) w.heap.size (fun k_ => some k_ ≠ (.slice Aoz1 t102.length coz1 : Value).ownBlock ∧ some k_ ≠ (vz2 : Value).ownBlock ∧ some k_ ≠ (.slice Aoz2 t110.length coz2 : Value).ownBlock ∧ some k_ ≠ (.slice Aoz3 t115.length coz3 : Value).ownBlock) (.slice Aoz4 t121.length coz4) t121) := ⟨(rT (h := by exact Kd.R_mono (Kd.R_far (p := ⟨gbz4, 1, none⟩) (Kd.R_far (p := ⟨gbz4, 0, none⟩) (Kd.R_types HOz5.out BKz4.out (by decide)) (fun _ hk => hk.2) (.slice Aoz4 t121.length coz4)) (fun _ hk => hk.2) (.int .i64 t124)) (fun _ hk => ⟨hk.1.1.1.1.2, ⟨hk.1.1.1.2, ⟨hk.1.1.2, hk.1.2⟩⟩⟩)))⟩
            have ny6 : Aside0 (((wz9.setCell ⟨gbz4, 0, none⟩ (.slice Aoz4 t121.length coz4)).setCell ⟨gbz4, 1, none⟩ (.int .i64 t124)).heap[gbz1]? = some (.cells #[.slice Aoz1 t102.length coz1, .int .i64 t105] 24 (0, 0))) := ⟨(bF BKz1.out)⟩
            have ny7 : Aside0 (((wz9.setCell ⟨gbz4, 0, none⟩ (.slice Aoz4 t121.length coz4)).setCell ⟨gbz4, 1, none⟩ (.int .i64 t124)).heap[gbz2]? = some (.cells #[.slice Aoz2 t110.length coz2, .int .i64 t113] 24 (0, 0))) := ⟨(bF BKz2.out)⟩
            have ny8 : Aside0 (((wz9.setCell ⟨gbz4, 0, none⟩ (.slice Aoz4 t121.length coz4)).setCell ⟨gbz4, 1, none⟩ (.int .i64 t124)).heap[gbz3]? = some (.cells #[.slice Aoz3 t115.length coz3, .int .i64 t118] 24 (0, 0))) := ⟨(bF BKz3.out)⟩
            have ny9 : Aside0 (((wz9.setCell ⟨gbz4, 0, none⟩ (.slice Aoz4 t121.length coz4)).setCell ⟨gbz4, 1, none⟩ (.int .i64 t124)).heap[gbz4]? = some (.cells #[.slice Aoz4 t121.length coz4, .int .i64 t124] 24 (0, 0))) := ⟨(bP BKz4.out)⟩
            have ny10 : Aside0 (Below w.heap.size w ((wz9.setCell ⟨gbz4, 0, none⟩ (.slice Aoz4 t121.length coz4)).setCell ⟨gbz4, 1, none⟩ (.int .i64 t124))) := ⟨(hX HB.out)⟩
            (try clear HOz1)
            (try clear HOz2)
            (try clear HOz3)
            (try clear HOz4)
            (try clear HOz5)
            (try clear BKz1)
            (try clear BKz2)
            (try clear BKz3)
            (try clear BKz4)
            (try clear HB)
            generalize ((wz9.setCell ⟨gbz4, 0, none⟩ (.slice Aoz4 t121.length coz4)).setCell ⟨gbz4, 1, none⟩ (.int .i64 t124)) = wy1 at ny1 ny2 ny3 ny4 ny5 ny6 ny7 ny8 ny9 ny10 ⊢
            have HOz1 := ny1
            have HOz2 := ny2
            have HOz3 := ny3
            have HOz4 := ny4
            have HOz5 := ny5
            have BKz1 := ny6
            have BKz2 := ny7
            have BKz3 := ny8
            have BKz4 := ny9
            have HB := ny10
            clear ny1 ny2 ny3 ny4 ny5 ny6 ny7 ny8 ny9 ny10
            replace HOz1 := Aside0.mk (Kd.R_drew HOz1.out)
            replace HOz2 := Aside0.mk (Kd.R_drew HOz2.out)
            replace HOz3 := Aside0.mk (Kd.R_drew HOz3.out)
            replace HOz4 := Aside0.mk (Kd.R_drew HOz4.out)
            replace HOz5 := Aside0.mk (Kd.R_drew HOz5.out)
            replace BKz1 := Aside0.mk (blk_drew BKz1.out)
            replace BKz2 := Aside0.mk (blk_drew BKz2.out)
            replace BKz3 := Aside0.mk (blk_drew BKz3.out)
            replace BKz4 := Aside0.mk (blk_drew BKz4.out)
            replace HB := Aside0.mk (below_drew1 HB.out)
            refine start_ (n := 30) (S := fun w' => w'.cell? ⟨gbz1, 0, none⟩ = some (.slice Aoz1 t102.length coz1) ∧ w'.cell? ⟨gbz1, 1, none⟩ = some (.int .i64 t105) ∧ w'.cell? ⟨gbz2, 0, none⟩ = some (.slice Aoz2 t110.length coz2) ∧ w'.cell? ⟨gbz2, 1, none⟩ = some (.int .i64 t113) ∧ w'.cell? ⟨gbz3, 0, none⟩ = some (.slice Aoz3 t115.length coz3) ∧ w'.cell? ⟨gbz3, 1, none⟩ = some (.int .i64 t118) ∧ w'.cell? ⟨gbz4, 0, none⟩ = some (.slice Aoz4 t121.length coz4) ∧ w'.cell? ⟨gbz4, 1, none⟩ = some (.int .i64 t124)) (ds := []) (bm 30 0) (by kernel_rfl) rfl (by kernel_rfl) ⟨cK BKz1.out 0, cK BKz1.out 1, cK BKz2.out 0, cK BKz2.out 1, cK BKz3.out 0, cK BKz3.out 1, cK BKz4.out 0, cK BKz4.out 1⟩ (fun hHeld => ?_); refine with_tabW laws_FnRows.tab8 laws_FnRows.bits8 (fun HT_ HW_ => ?_)
            generalize wy1.drew = wy2 at HOz1 HOz2 HOz3 HOz4 HOz5 BKz1 BKz2 BKz3 BKz4 HB hHeld ⊢
            refine pZ 0 36 (bm 30 1) HT_.out ?_
            refine tZ 1 37 (bm 30 3) HT_.out HW_.out hHeld ?_
            refine oZ 2 (some 38) (bm 30 7) HT_.out (fun K hK => ?_)
            refine goesN Try.func37 #[.agg #[.slice Aoz1 t102.length coz1, .int .i64 t105]] ?_
            with_reducible refine (spec_WordsOf.calls k _ _ t102 t105 t127 _ ?side1 ?side2 A33.out).mono ?_
            (case side1 => repeat (first | exact (Kd.R_reads' HOz1.out).2.2 | (with_reducible refine Kd.C_alloc ?_ _) | (with_reducible refine Kd.C_drewN ?_ _) | (with_reducible refine Kd.C_drew ?_)))
            (case side2 => exact (Kd.R_reads' HOz1.out).2.1)
            rintro e wy3 ⟨vy1, rfl, hoz1, hb⟩
            refine ⟨_, rfl, ?_⟩
            have HOy1 := Aside0.mk (Kd.R_lower (Kd.R_new' (Kd.R_new' (Kd.R_new' (Kd.R_new' (Kd.R_new' hoz1 (Kd.R_lt (rX HOz1.out))) (Kd.R_lt (rX HOz2.out))) (Kd.R_lt (rX HOz3.out))) (Kd.R_lt (rX HOz4.out))) (Kd.R_lt (rX HOz5.out))) (below_size (hX HB.out)))
            replace HOz1 := Aside0.mk (Kd.R_elder' (rX HOz1.out) (Kd.R_base hoz1) hb)
            replace HOz2 := Aside0.mk (Kd.R_elder' (rX HOz2.out) (Kd.R_base hoz1) hb)
            replace HOz3 := Aside0.mk (Kd.R_elder' (rX HOz3.out) (Kd.R_base hoz1) hb)
            replace HOz4 := Aside0.mk (Kd.R_elder' (rX HOz4.out) (Kd.R_base hoz1) hb)
            replace HOz5 := Aside0.mk (Kd.R_elder' (rX HOz5.out) (Kd.R_base hoz1) hb)
            replace BKz1 := Aside0.mk (blk_below (bX BKz1.out) hb)
            replace BKz2 := Aside0.mk (blk_below (bX BKz2.out) hb)
            replace BKz3 := Aside0.mk (blk_below (bX BKz3.out) hb)
            replace BKz4 := Aside0.mk (blk_below (bX BKz4.out) hb)
            replace HB := Aside0.mk (below_step (hX HB.out) hb)
            (try clear hb)
            (try clear hb2)
            (try clear hk)
            (try clear hi)
            (try clear hoz1)
            obtain ⟨Aoy1, coy1, eoy1⟩ := Kd.R_slice HOz2.out
            (first | subst eoy1 | (injection eoy1 with f1_ f2_ f3_; have fy1 := f1_.symm; have fy2 := f3_.symm; clear f1_ f2_ f3_; subst fy1; subst fy2))
            obtain ⟨Aoy2, coy2, eoy2⟩ := Kd.R_slice HOy1.out
            (first | subst eoy2 | (injection eoy2 with f1_ f2_ f3_; have fy1 := f1_.symm; have fy2 := f3_.symm; clear f1_ f2_ f3_; subst fy1; subst fy2))
            refine hK.out _ _ ⟨cK BKz1.out 0, cK BKz1.out 1, cK BKz2.out 0, cK BKz2.out 1, cK BKz3.out 0, cK BKz3.out 1, cK BKz4.out 0, cK BKz4.out 1⟩ (fun hHeld => ?_)
            clear hK K
            refine nZ 38 ?_
            refine oZ 3 (some 39) (bm 30 15) HT_.out (fun K hK => ?_)
            refine goesN Try.func36 #[.slice Aoy1 t107.length coy1, .slice Aoy2 t127.length coy2] ?_
            with_reducible refine (laws_sameInts.calls k _ _ t107 _ _ t127 true _ ?side1 ?side2 ?side3 ?side4 A34.out).mono ?_
            (case side1 => repeat (first | exact (Kd.R_reads' HOz2.out).2.2 | (with_reducible refine Kd.C_alloc ?_ _) | (with_reducible refine Kd.C_drewN ?_ _) | (with_reducible refine Kd.C_drew ?_)))
            (case side2 => exact (Kd.R_reads' HOz2.out).2.1)
            (case side3 => repeat (first | exact (Kd.R_reads' HOy1.out).2.2 | (with_reducible refine Kd.C_alloc ?_ _) | (with_reducible refine Kd.C_drewN ?_ _) | (with_reducible refine Kd.C_drew ?_)))
            (case side4 => exact (Kd.R_reads' HOy1.out).2.1)
            rintro e w' ⟨rfl, ⟨nd, rfl⟩⟩
            refine ⟨_, rfl, ?_⟩
            refine hK.out _ _ ⟨cK BKz1.out 0, cK BKz1.out 1, cK BKz2.out 0, cK BKz2.out 1, cK BKz3.out 0, cK BKz3.out 1, cK BKz4.out 0, cK BKz4.out 1⟩ (fun hHeld => ?_)
            clear hK K
            refine nZ 39 ?_
            refine pZ 4 40 (bm 30 31) HT_.out ?_
            refine pZ 5 41 (bm 30 63) HT_.out ?_
            refine tZ 6 42 (bm 30 127) HT_.out HW_.out hHeld ?_
            refine tZ 8 44 (bm 30 383) HT_.out HW_.out hHeld ?_
            refine oZ 7 (some 43) (bm 30 511) HT_.out (fun K hK => ?_)
            refine goesN Try.func38 #[.agg #[.slice Aoz2 t110.length coz2, .int .i64 t113]] ?_
            with_reducible refine (impl_RowsOk.calls k _ _ t110 t113 t131 _ ?side1 ?side2 A36.out).mono ?_
            (case side1 => repeat (first | exact (Kd.R_reads' HOz3.out).2.2 | (with_reducible refine Kd.C_alloc ?_ _) | (with_reducible refine Kd.C_drewN ?_ _) | (with_reducible refine Kd.C_drew ?_)))
            (case side2 => exact (Kd.R_reads' HOz3.out).2.1)
            rintro e wy4 ⟨rfl, hb⟩
            refine ⟨_, rfl, ?_⟩
            replace HOz1 := Aside0.mk (Kd.R_below (rX HOz1.out) hb)
            replace HOz2 := Aside0.mk (Kd.R_below (rX HOz2.out) hb)
            replace HOz3 := Aside0.mk (Kd.R_below (rX HOz3.out) hb)
            replace HOz4 := Aside0.mk (Kd.R_below (rX HOz4.out) hb)
            replace HOz5 := Aside0.mk (Kd.R_below (rX HOz5.out) hb)
            replace HOy1 := Aside0.mk (Kd.R_below (rX HOy1.out) hb)
            replace BKz1 := Aside0.mk (blk_below (bX BKz1.out) hb)
            replace BKz2 := Aside0.mk (blk_below (bX BKz2.out) hb)
            replace BKz3 := Aside0.mk (blk_below (bX BKz3.out) hb)
            replace BKz4 := Aside0.mk (blk_below (bX BKz4.out) hb)
            replace HB := Aside0.mk (below_step (hX HB.out) hb)
            (try clear hb)
            (try clear hb2)
            (try clear hk)
            (try clear hi)
            refine hK.out _ _ ⟨cK BKz1.out 0, cK BKz1.out 1, cK BKz2.out 0, cK BKz2.out 1, cK BKz3.out 0, cK BKz3.out 1, cK BKz4.out 0, cK BKz4.out 1⟩ (fun hHeld => ?_)
            clear hK K
            refine nZ 43 ?_
            refine oZ 9 (some 45) (bm 30 1023) HT_.out (fun K hK => ?_)
            refine goesN Try.func39 #[.agg #[.slice Aoz2 t110.length coz2, .int .i64 t113]] ?_
            with_reducible refine (spec_RowsOk.calls k _ _ t110 t113 t132 _ ?side1 ?side2 A37.out).mono ?_
            (case side1 => repeat (first | exact (Kd.R_reads' HOz3.out).2.2 | (with_reducible refine Kd.C_alloc ?_ _) | (with_reducible refine Kd.C_drewN ?_ _) | (with_reducible refine Kd.C_drew ?_)))
            (case side2 => exact (Kd.R_reads' HOz3.out).2.1)
            rintro e wy5 ⟨rfl, hb⟩
            refine ⟨_, rfl, ?_⟩
            replace HOz1 := Aside0.mk (Kd.R_below (rX HOz1.out) hb)
            replace HOz2 := Aside0.mk (Kd.R_below (rX HOz2.out) hb)
            replace HOz3 := Aside0.mk (Kd.R_below (rX HOz3.out) hb)
            replace HOz4 := Aside0.mk (Kd.R_below (rX HOz4.out) hb)
            replace HOz5 := Aside0.mk (Kd.R_below (rX HOz5.out) hb)
            replace HOy1 := Aside0.mk (Kd.R_below (rX HOy1.out) hb)
            replace BKz1 := Aside0.mk (blk_below (bX BKz1.out) hb)
            replace BKz2 := Aside0.mk (blk_below (bX BKz2.out) hb)
            replace BKz3 := Aside0.mk (blk_below (bX BKz3.out) hb)
            replace BKz4 := Aside0.mk (blk_below (bX BKz4.out) hb)
            replace HB := Aside0.mk (below_step (hX HB.out) hb)
            (try clear hb)
            (try clear hb2)
            (try clear hk)
            (try clear hi)
            refine hK.out _ _ ⟨cK BKz1.out 0, cK BKz1.out 1, cK BKz2.out 0, cK BKz2.out 1, cK BKz3.out 0, cK BKz3.out 1, cK BKz4.out 0, cK BKz4.out 1⟩ (fun hHeld => ?_)
            clear hK K
            refine nZ 45 ?_
            refine pZ 10 46 (bm 30 2047) HT_.out ?_
            refine pZ 11 47 (bm 30 4095) HT_.out ?_
            refine pZ 12 48 (bm 30 8191) HT_.out ?_
            refine pZ 14 50 (bm 30 24575) HT_.out ?_
            refine pZ 17 53 (bm 30 155647) HT_.out ?_
            refine tZ 13 49 (bm 30 163839) HT_.out HW_.out hHeld ?_
            refine tZ 16 52 (bm 30 229375) HT_.out HW_.out hHeld ?_
            refine oZ 15 (some 51) (bm 30 262143) HT_.out (fun K hK => ?_)
            refine goesN Try.func40 #[.agg #[.slice Aoz3 t115.length coz3, .int .i64 t118], .int .i64 t119] ?_
            with_reducible refine (impl_KeyOf.calls k _ _ t115 t118 t119 t133 _ ?side1 ?side2 A46.out).mono ?_
            (case side1 => repeat (first | exact (Kd.R_reads' HOz4.out).2.2 | (with_reducible refine Kd.C_alloc ?_ _) | (with_reducible refine Kd.C_drewN ?_ _) | (with_reducible refine Kd.C_drew ?_)))
            (case side2 => exact (Kd.R_reads' HOz4.out).2.1)
            rintro e wy6 ⟨rfl, hb⟩
            refine ⟨_, rfl, ?_⟩
            replace HOz1 := Aside0.mk (Kd.R_below (rX HOz1.out) hb)
            replace HOz2 := Aside0.mk (Kd.R_below (rX HOz2.out) hb)
            replace HOz3 := Aside0.mk (Kd.R_below (rX HOz3.out) hb)
            replace HOz4 := Aside0.mk (Kd.R_below (rX HOz4.out) hb)
            replace HOz5 := Aside0.mk (Kd.R_below (rX HOz5.out) hb)
            replace HOy1 := Aside0.mk (Kd.R_below (rX HOy1.out) hb)
            replace BKz1 := Aside0.mk (blk_below (bX BKz1.out) hb)
            replace BKz2 := Aside0.mk (blk_below (bX BKz2.out) hb)
            replace BKz3 := Aside0.mk (blk_below (bX BKz3.out) hb)
            replace BKz4 := Aside0.mk (blk_below (bX BKz4.out) hb)
            replace HB := Aside0.mk (below_step (hX HB.out) hb)
            (try clear hb)
            (try clear hb2)
            (try clear hk)
            (try clear hi)
            refine hK.out _ _ ⟨cK BKz1.out 0, cK BKz1.out 1, cK BKz2.out 0, cK BKz2.out 1, cK BKz3.out 0, cK BKz3.out 1, cK BKz4.out 0, cK BKz4.out 1⟩ (fun hHeld => ?_)
            clear hK K
            refine nZ 51 ?_
            refine oZ 18 (some 54) (bm 30 524287) HT_.out (fun K hK => ?_)
            refine goesN Try.func41 #[.agg #[.slice Aoz3 t115.length coz3, .int .i64 t118], .int .i64 t119] ?_
            with_reducible refine (spec_KeyOf.calls k _ _ t115 t118 t119 t134 _ ?side1 ?side2 A47.out).mono ?_
            (case side1 => repeat (first | exact (Kd.R_reads' HOz4.out).2.2 | (with_reducible refine Kd.C_alloc ?_ _) | (with_reducible refine Kd.C_drewN ?_ _) | (with_reducible refine Kd.C_drew ?_)))
            (case side2 => exact (Kd.R_reads' HOz4.out).2.1)
            rintro e wy7 ⟨rfl, hb⟩
            refine ⟨_, rfl, ?_⟩
            replace HOz1 := Aside0.mk (Kd.R_below (rX HOz1.out) hb)
            replace HOz2 := Aside0.mk (Kd.R_below (rX HOz2.out) hb)
            replace HOz3 := Aside0.mk (Kd.R_below (rX HOz3.out) hb)
            replace HOz4 := Aside0.mk (Kd.R_below (rX HOz4.out) hb)
            replace HOz5 := Aside0.mk (Kd.R_below (rX HOz5.out) hb)
            replace HOy1 := Aside0.mk (Kd.R_below (rX HOy1.out) hb)
            replace BKz1 := Aside0.mk (blk_below (bX BKz1.out) hb)
            replace BKz2 := Aside0.mk (blk_below (bX BKz2.out) hb)
            replace BKz3 := Aside0.mk (blk_below (bX BKz3.out) hb)
            replace BKz4 := Aside0.mk (blk_below (bX BKz4.out) hb)
            replace HB := Aside0.mk (below_step (hX HB.out) hb)
            (try clear hb)
            (try clear hb2)
            (try clear hk)
            (try clear hi)
            refine hK.out _ _ ⟨cK BKz1.out 0, cK BKz1.out 1, cK BKz2.out 0, cK BKz2.out 1, cK BKz3.out 0, cK BKz3.out 1, cK BKz4.out 0, cK BKz4.out 1⟩ (fun hHeld => ?_)
            clear hK K
            refine nZ 54 ?_
            refine pZ 19 55 (bm 30 1048575) HT_.out ?_
            refine pZ 20 56 (bm 30 2097151) HT_.out ?_
            refine pZ 21 57 (bm 30 4194303) HT_.out ?_
            refine pZ 23 59 (bm 30 12582911) HT_.out ?_
            refine pZ 26 62 (bm 30 79691775) HT_.out ?_
            refine tZ 22 58 (bm 30 83886079) HT_.out HW_.out hHeld ?_
            refine tZ 25 61 (bm 30 117440511) HT_.out HW_.out hHeld ?_
            refine oZ 24 (some 60) (bm 30 134217727) HT_.out (fun K hK => ?_)
            refine goesN Try.func42 #[.agg #[.slice Aoz4 t121.length coz4, .int .i64 t124], .int .i64 t125] ?_
            with_reducible refine (impl_HowMany.calls k _ _ t121 t124 t125 t135 _ ?side1 ?side2 A49.out).mono ?_
            (case side1 => repeat (first | exact (Kd.R_reads' HOz5.out).2.2 | (with_reducible refine Kd.C_alloc ?_ _) | (with_reducible refine Kd.C_drewN ?_ _) | (with_reducible refine Kd.C_drew ?_)))
            (case side2 => exact (Kd.R_reads' HOz5.out).2.1)
            rintro e wy8 ⟨rfl, hb⟩
            refine ⟨_, rfl, ?_⟩
            replace HOz1 := Aside0.mk (Kd.R_below (rX HOz1.out) hb)
            replace HOz2 := Aside0.mk (Kd.R_below (rX HOz2.out) hb)
            replace HOz3 := Aside0.mk (Kd.R_below (rX HOz3.out) hb)
            replace HOz4 := Aside0.mk (Kd.R_below (rX HOz4.out) hb)
            replace HOz5 := Aside0.mk (Kd.R_below (rX HOz5.out) hb)
            replace HOy1 := Aside0.mk (Kd.R_below (rX HOy1.out) hb)
            replace BKz1 := Aside0.mk (blk_below (bX BKz1.out) hb)
            replace BKz2 := Aside0.mk (blk_below (bX BKz2.out) hb)
            replace BKz3 := Aside0.mk (blk_below (bX BKz3.out) hb)
            replace BKz4 := Aside0.mk (blk_below (bX BKz4.out) hb)
            replace HB := Aside0.mk (below_step (hX HB.out) hb)
            (try clear hb)
            (try clear hb2)
            (try clear hk)
            (try clear hi)
            refine hK.out _ _ ⟨cK BKz1.out 0, cK BKz1.out 1, cK BKz2.out 0, cK BKz2.out 1, cK BKz3.out 0, cK BKz3.out 1, cK BKz4.out 0, cK BKz4.out 1⟩ (fun hHeld => ?_)
            clear hK K
            refine nZ 60 ?_
            refine oZ 27 (some 63) (bm 30 268435455) HT_.out (fun K hK => ?_)
            refine goesN Try.func43 #[.agg #[.slice Aoz4 t121.length coz4, .int .i64 t124], .int .i64 t125] ?_
            with_reducible refine (spec_HowMany.calls k _ _ t121 t124 t125 t136 _ ?side1 ?side2 A50.out).mono ?_
            (case side1 => repeat (first | exact (Kd.R_reads' HOz5.out).2.2 | (with_reducible refine Kd.C_alloc ?_ _) | (with_reducible refine Kd.C_drewN ?_ _) | (with_reducible refine Kd.C_drew ?_)))
            (case side2 => exact (Kd.R_reads' HOz5.out).2.1)
            rintro e wy9 ⟨rfl, hb⟩
            refine ⟨_, rfl, ?_⟩
            replace HOz1 := Aside0.mk (Kd.R_below (rX HOz1.out) hb)
            replace HOz2 := Aside0.mk (Kd.R_below (rX HOz2.out) hb)
            replace HOz3 := Aside0.mk (Kd.R_below (rX HOz3.out) hb)
            replace HOz4 := Aside0.mk (Kd.R_below (rX HOz4.out) hb)
            replace HOz5 := Aside0.mk (Kd.R_below (rX HOz5.out) hb)
            replace HOy1 := Aside0.mk (Kd.R_below (rX HOy1.out) hb)
            replace BKz1 := Aside0.mk (blk_below (bX BKz1.out) hb)
            replace BKz2 := Aside0.mk (blk_below (bX BKz2.out) hb)
            replace BKz3 := Aside0.mk (blk_below (bX BKz3.out) hb)
            replace BKz4 := Aside0.mk (blk_below (bX BKz4.out) hb)
            replace HB := Aside0.mk (below_step (hX HB.out) hb)
            (try clear hb)
            (try clear hb2)
            (try clear hk)
            (try clear hi)
            refine hK.out _ _ ⟨cK BKz1.out 0, cK BKz1.out 1, cK BKz2.out 0, cK BKz2.out 1, cK BKz3.out 0, cK BKz3.out 1, cK BKz4.out 0, cK BKz4.out 1⟩ (fun hHeld => ?_)
            clear hK K
            refine nZ 63 ?_
            refine pZ 28 64 (bm 30 536870911) HT_.out ?_
            refine pZ 29 65 (bm 30 1073741823) HT_.out ?_
            refine done_ (done_of HT_.out (by kernel_rfl)) ?_
            try go_wp2
            go_meet
            case rel => exact ⟨_, ((t135 != t136)), rS, H', ⟨by first | omega | exact Nat.le_refl _⟩, ⟨(rT (h := by exact Kd.R_mono HOz2.out (fun _ hk => ⟨hk.1.1, ⟨hk.1.2.1, ⟨hk.1.2.2.1, hk.1.2.2.2⟩⟩⟩)))⟩, ⟨(rT (h := by exact Kd.R_mono HOz1.out (fun _ hk => ⟨hk.1.1, ⟨hk.1.2.1, ⟨hk.1.2.2.1, hk.1.2.2.2⟩⟩⟩)))⟩, ⟨(rT (h := by exact Kd.R_mono HOz3.out (fun _ hk => ⟨hk.1.2.1, ⟨hk.1.1, ⟨hk.1.2.2.1, hk.1.2.2.2⟩⟩⟩)))⟩, ⟨(rT (h := by exact Kd.R_mono HOz4.out (fun _ hk => ⟨hk.1.2.1, ⟨hk.1.1, ⟨hk.1.2.2.1, hk.1.2.2.2⟩⟩⟩)))⟩, ⟨(rT (h := by exact Kd.R_mono HOz5.out (fun _ hk => ⟨hk.1.2.1, ⟨hk.1.1, ⟨hk.1.2.2.1, hk.1.2.2.2⟩⟩⟩)))⟩, ⟨(bX BKz1.out)⟩, ⟨(bX BKz2.out)⟩, ⟨(bX BKz3.out)⟩, ⟨(bX BKz4.out)⟩, ⟨(hX HB.out)⟩⟩
          · rw [if_neg c48] at H
            obtain ⟨c48b0, c48b1⟩ := eqF c48
            have H' := Aside0.mk H
            clear H
            try go_wp2
            have ny1 : Aside0 (Kd.R (Kd.int .i64) 3 ((wz9.setCell ⟨gbz4, 0, none⟩ (.slice Aoz4 t121.length coz4)).setCell ⟨gbz4, 1, none⟩ (.int .i64 t124)) w.heap.size (fun k_ => some k_ ≠ (vz2 : Value).ownBlock ∧ some k_ ≠ (.slice Aoz2 t110.length coz2 : Value).ownBlock ∧ some k_ ≠ (.slice Aoz3 t115.length coz3 : Value).ownBlock ∧ some k_ ≠ (.slice Aoz4 t121.length coz4 : Value).ownBlock) (.slice Aoz1 t102.length coz1) t102) := ⟨(rT (h := by exact Kd.R_mono (Kd.R_far (p := ⟨gbz4, 1, none⟩) (Kd.R_far (p := ⟨gbz4, 0, none⟩) (Kd.R_types HOz1.out BKz4.out (by decide)) (fun _ hk => hk.2) (.slice Aoz4 t121.length coz4)) (fun _ hk => hk.2) (.int .i64 t124)) (fun _ hk => ⟨hk.1.1.1.1.2, ⟨hk.1.1.1.2, ⟨hk.1.1.2, hk.1.2⟩⟩⟩)))⟩
            have ny2 : Aside0 (Kd.R (Kd.int .i64) 3 ((wz9.setCell ⟨gbz4, 0, none⟩ (.slice Aoz4 t121.length coz4)).setCell ⟨gbz4, 1, none⟩ (.int .i64 t124)) w.heap.size (fun k_ => some k_ ≠ (.slice Aoz1 t102.length coz1 : Value).ownBlock ∧ some k_ ≠ (.slice Aoz2 t110.length coz2 : Value).ownBlock ∧ some k_ ≠ (.slice Aoz3 t115.length coz3 : Value).ownBlock ∧ some k_ ≠ (.slice Aoz4 t121.length coz4 : Value).ownBlock) vz2 t107) := ⟨(rT (h := by exact Kd.R_mono (Kd.R_far (p := ⟨gbz4, 1, none⟩) (Kd.R_far (p := ⟨gbz4, 0, none⟩) (Kd.R_types HOz2.out BKz4.out (by decide)) (fun _ hk => hk.2) (.slice Aoz4 t121.length coz4)) (fun _ hk => hk.2) (.int .i64 t124)) (fun _ hk => ⟨hk.1.1.1.1.2, ⟨hk.1.1.1.2, ⟨hk.1.1.2, hk.1.2⟩⟩⟩)))⟩
            have ny3 : Aside0 (Kd.R (Kd.int .i64) 3 ((wz9.setCell ⟨gbz4, 0, none⟩ (.slice Aoz4 t121.length coz4)).setCell ⟨gbz4, 1, none⟩ (.int .i64 t124)) w.heap.size (fun k_ => some k_ ≠ (.slice Aoz1 t102.length coz1 : Value).ownBlock ∧ some k_ ≠ (vz2 : Value).ownBlock ∧ some k_ ≠ (.slice Aoz3 t115.length coz3 : Value).ownBlock ∧ some k_ ≠ (.slice Aoz4 t121.length coz4 : Value).ownBlock) (.slice Aoz2 t110.length coz2) t110) := ⟨(rT (h := by exact Kd.R_mono (Kd.R_far (p := ⟨gbz4, 1, none⟩) (Kd.R_far (p := ⟨gbz4, 0, none⟩) (Kd.R_types HOz3.out BKz4.out (by decide)) (fun _ hk => hk.2) (.slice Aoz4 t121.length coz4)) (fun _ hk => hk.2) (.int .i64 t124)) (fun _ hk => ⟨hk.1.1.1.1.2, ⟨hk.1.1.1.2, ⟨hk.1.1.2, hk.1.2⟩⟩⟩)))⟩
            have ny4 : Aside0 (Kd.R (Kd.int .i64) 3 ((wz9.setCell ⟨gbz4, 0, none⟩ (.slice Aoz4 t121.length coz4)).setCell ⟨gbz4, 1, none⟩ (.int .i64 t124)) w.heap.size (fun k_ => some k_ ≠ (.slice Aoz1 t102.length coz1 : Value).ownBlock ∧ some k_ ≠ (vz2 : Value).ownBlock ∧ some k_ ≠ (.slice Aoz2 t110.length coz2 : Value).ownBlock ∧ some k_ ≠ (.slice Aoz4 t121.length coz4 : Value).ownBlock) (.slice Aoz3 t115.length coz3) t115) := ⟨(rT (h := by exact Kd.R_mono (Kd.R_far (p := ⟨gbz4, 1, none⟩) (Kd.R_far (p := ⟨gbz4, 0, none⟩) (Kd.R_types HOz4.out BKz4.out (by decide)) (fun _ hk => hk.2) (.slice Aoz4 t121.length coz4)) (fun _ hk => hk.2) (.int .i64 t124)) (fun _ hk => ⟨hk.1.1.1.1.2, ⟨hk.1.1.1.2, ⟨hk.1.1.2, hk.1.2⟩⟩⟩)))⟩
            have ny5 : Aside0 (Kd.R (Kd.int .i64) 3 ((wz9.setCell ⟨gbz4, 0, none⟩ (.slice Aoz4 t121.length coz4)).setCell ⟨gbz4, 1, none⟩ (.int .i64 t124)) w.heap.size (fun k_ => some k_ ≠ (.slice Aoz1 t102.length coz1 : Value).ownBlock ∧ some k_ ≠ (vz2 : Value).ownBlock ∧ some k_ ≠ (.slice Aoz2 t110.length coz2 : Value).ownBlock ∧ some k_ ≠ (.slice Aoz3 t115.length coz3 : Value).ownBlock) (.slice Aoz4 t121.length coz4) t121) := ⟨(rT (h := by exact Kd.R_mono (Kd.R_far (p := ⟨gbz4, 1, none⟩) (Kd.R_far (p := ⟨gbz4, 0, none⟩) (Kd.R_types HOz5.out BKz4.out (by decide)) (fun _ hk => hk.2) (.slice Aoz4 t121.length coz4)) (fun _ hk => hk.2) (.int .i64 t124)) (fun _ hk => ⟨hk.1.1.1.1.2, ⟨hk.1.1.1.2, ⟨hk.1.1.2, hk.1.2⟩⟩⟩)))⟩
            have ny6 : Aside0 (((wz9.setCell ⟨gbz4, 0, none⟩ (.slice Aoz4 t121.length coz4)).setCell ⟨gbz4, 1, none⟩ (.int .i64 t124)).heap[gbz1]? = some (.cells #[.slice Aoz1 t102.length coz1, .int .i64 t105] 24 (0, 0))) := ⟨(bF BKz1.out)⟩
            have ny7 : Aside0 (((wz9.setCell ⟨gbz4, 0, none⟩ (.slice Aoz4 t121.length coz4)).setCell ⟨gbz4, 1, none⟩ (.int .i64 t124)).heap[gbz2]? = some (.cells #[.slice Aoz2 t110.length coz2, .int .i64 t113] 24 (0, 0))) := ⟨(bF BKz2.out)⟩
            have ny8 : Aside0 (((wz9.setCell ⟨gbz4, 0, none⟩ (.slice Aoz4 t121.length coz4)).setCell ⟨gbz4, 1, none⟩ (.int .i64 t124)).heap[gbz3]? = some (.cells #[.slice Aoz3 t115.length coz3, .int .i64 t118] 24 (0, 0))) := ⟨(bF BKz3.out)⟩
            have ny9 : Aside0 (((wz9.setCell ⟨gbz4, 0, none⟩ (.slice Aoz4 t121.length coz4)).setCell ⟨gbz4, 1, none⟩ (.int .i64 t124)).heap[gbz4]? = some (.cells #[.slice Aoz4 t121.length coz4, .int .i64 t124] 24 (0, 0))) := ⟨(bP BKz4.out)⟩
            have ny10 : Aside0 (Below w.heap.size w ((wz9.setCell ⟨gbz4, 0, none⟩ (.slice Aoz4 t121.length coz4)).setCell ⟨gbz4, 1, none⟩ (.int .i64 t124))) := ⟨(hX HB.out)⟩
            (try clear HOz1)
            (try clear HOz2)
            (try clear HOz3)
            (try clear HOz4)
            (try clear HOz5)
            (try clear BKz1)
            (try clear BKz2)
            (try clear BKz3)
            (try clear BKz4)
            (try clear HB)
            generalize ((wz9.setCell ⟨gbz4, 0, none⟩ (.slice Aoz4 t121.length coz4)).setCell ⟨gbz4, 1, none⟩ (.int .i64 t124)) = wy1 at ny1 ny2 ny3 ny4 ny5 ny6 ny7 ny8 ny9 ny10 ⊢
            have HOz1 := ny1
            have HOz2 := ny2
            have HOz3 := ny3
            have HOz4 := ny4
            have HOz5 := ny5
            have BKz1 := ny6
            have BKz2 := ny7
            have BKz3 := ny8
            have BKz4 := ny9
            have HB := ny10
            clear ny1 ny2 ny3 ny4 ny5 ny6 ny7 ny8 ny9 ny10
            replace HOz1 := Aside0.mk (Kd.R_drew HOz1.out)
            replace HOz2 := Aside0.mk (Kd.R_drew HOz2.out)
            replace HOz3 := Aside0.mk (Kd.R_drew HOz3.out)
            replace HOz4 := Aside0.mk (Kd.R_drew HOz4.out)
            replace HOz5 := Aside0.mk (Kd.R_drew HOz5.out)
            replace BKz1 := Aside0.mk (blk_drew BKz1.out)
            replace BKz2 := Aside0.mk (blk_drew BKz2.out)
            replace BKz3 := Aside0.mk (blk_drew BKz3.out)
            replace BKz4 := Aside0.mk (blk_drew BKz4.out)
            replace HB := Aside0.mk (below_drew1 HB.out)
            refine start_ (n := 30) (S := fun w' => w'.cell? ⟨gbz1, 0, none⟩ = some (.slice Aoz1 t102.length coz1) ∧ w'.cell? ⟨gbz1, 1, none⟩ = some (.int .i64 t105) ∧ w'.cell? ⟨gbz2, 0, none⟩ = some (.slice Aoz2 t110.length coz2) ∧ w'.cell? ⟨gbz2, 1, none⟩ = some (.int .i64 t113) ∧ w'.cell? ⟨gbz3, 0, none⟩ = some (.slice Aoz3 t115.length coz3) ∧ w'.cell? ⟨gbz3, 1, none⟩ = some (.int .i64 t118)) (ds := []) (bm 30 0) (by kernel_rfl) rfl (by kernel_rfl) ⟨cK BKz1.out 0, cK BKz1.out 1, cK BKz2.out 0, cK BKz2.out 1, cK BKz3.out 0, cK BKz3.out 1⟩ (fun hHeld => ?_); refine with_tabW laws_FnRows.tab8 laws_FnRows.bits8 (fun HT_ HW_ => ?_)
            generalize wy1.drew = wy2 at HOz1 HOz2 HOz3 HOz4 HOz5 BKz1 BKz2 BKz3 BKz4 HB hHeld ⊢
            refine pZ 0 36 (bm 30 1) HT_.out ?_
            refine tZ 1 37 (bm 30 3) HT_.out HW_.out hHeld ?_
            refine oZ 2 (some 38) (bm 30 7) HT_.out (fun K hK => ?_)
            refine goesN Try.func37 #[.agg #[.slice Aoz1 t102.length coz1, .int .i64 t105]] ?_
            with_reducible refine (spec_WordsOf.calls k _ _ t102 t105 t127 _ ?side1 ?side2 A33.out).mono ?_
            (case side1 => repeat (first | exact (Kd.R_reads' HOz1.out).2.2 | (with_reducible refine Kd.C_alloc ?_ _) | (with_reducible refine Kd.C_drewN ?_ _) | (with_reducible refine Kd.C_drew ?_)))
            (case side2 => exact (Kd.R_reads' HOz1.out).2.1)
            rintro e wy3 ⟨vy1, rfl, hoz1, hb⟩
            refine ⟨_, rfl, ?_⟩
            have HOy1 := Aside0.mk (Kd.R_lower (Kd.R_new' (Kd.R_new' (Kd.R_new' (Kd.R_new' (Kd.R_new' hoz1 (Kd.R_lt (rX HOz1.out))) (Kd.R_lt (rX HOz2.out))) (Kd.R_lt (rX HOz3.out))) (Kd.R_lt (rX HOz4.out))) (Kd.R_lt (rX HOz5.out))) (below_size (hX HB.out)))
            replace HOz1 := Aside0.mk (Kd.R_elder' (rX HOz1.out) (Kd.R_base hoz1) hb)
            replace HOz2 := Aside0.mk (Kd.R_elder' (rX HOz2.out) (Kd.R_base hoz1) hb)
            replace HOz3 := Aside0.mk (Kd.R_elder' (rX HOz3.out) (Kd.R_base hoz1) hb)
            replace HOz4 := Aside0.mk (Kd.R_elder' (rX HOz4.out) (Kd.R_base hoz1) hb)
            replace HOz5 := Aside0.mk (Kd.R_elder' (rX HOz5.out) (Kd.R_base hoz1) hb)
            replace BKz1 := Aside0.mk (blk_below (bX BKz1.out) hb)
            replace BKz2 := Aside0.mk (blk_below (bX BKz2.out) hb)
            replace BKz3 := Aside0.mk (blk_below (bX BKz3.out) hb)
            replace BKz4 := Aside0.mk (blk_below (bX BKz4.out) hb)
            replace HB := Aside0.mk (below_step (hX HB.out) hb)
            (try clear hb)
            (try clear hb2)
            (try clear hk)
            (try clear hi)
            (try clear hoz1)
            obtain ⟨Aoy1, coy1, eoy1⟩ := Kd.R_slice HOz2.out
            (first | subst eoy1 | (injection eoy1 with f1_ f2_ f3_; have fy1 := f1_.symm; have fy2 := f3_.symm; clear f1_ f2_ f3_; subst fy1; subst fy2))
            obtain ⟨Aoy2, coy2, eoy2⟩ := Kd.R_slice HOy1.out
            (first | subst eoy2 | (injection eoy2 with f1_ f2_ f3_; have fy1 := f1_.symm; have fy2 := f3_.symm; clear f1_ f2_ f3_; subst fy1; subst fy2))
            refine hK.out _ _ ⟨cK BKz1.out 0, cK BKz1.out 1, cK BKz2.out 0, cK BKz2.out 1, cK BKz3.out 0, cK BKz3.out 1⟩ (fun hHeld => ?_)
            clear hK K
            refine nZ 38 ?_
            refine oZ 3 (some 39) (bm 30 15) HT_.out (fun K hK => ?_)
            refine goesN Try.func36 #[.slice Aoy1 t107.length coy1, .slice Aoy2 t127.length coy2] ?_
            with_reducible refine (laws_sameInts.calls k _ _ t107 _ _ t127 true _ ?side1 ?side2 ?side3 ?side4 A34.out).mono ?_
            (case side1 => repeat (first | exact (Kd.R_reads' HOz2.out).2.2 | (with_reducible refine Kd.C_alloc ?_ _) | (with_reducible refine Kd.C_drewN ?_ _) | (with_reducible refine Kd.C_drew ?_)))
            (case side2 => exact (Kd.R_reads' HOz2.out).2.1)
            (case side3 => repeat (first | exact (Kd.R_reads' HOy1.out).2.2 | (with_reducible refine Kd.C_alloc ?_ _) | (with_reducible refine Kd.C_drewN ?_ _) | (with_reducible refine Kd.C_drew ?_)))
            (case side4 => exact (Kd.R_reads' HOy1.out).2.1)
            rintro e w' ⟨rfl, ⟨nd, rfl⟩⟩
            refine ⟨_, rfl, ?_⟩
            refine hK.out _ _ ⟨cK BKz1.out 0, cK BKz1.out 1, cK BKz2.out 0, cK BKz2.out 1, cK BKz3.out 0, cK BKz3.out 1⟩ (fun hHeld => ?_)
            clear hK K
            refine nZ 39 ?_
            refine pZ 4 40 (bm 30 31) HT_.out ?_
            refine pZ 5 41 (bm 30 63) HT_.out ?_
            refine tZ 6 42 (bm 30 127) HT_.out HW_.out hHeld ?_
            refine tZ 8 44 (bm 30 383) HT_.out HW_.out hHeld ?_
            refine oZ 7 (some 43) (bm 30 511) HT_.out (fun K hK => ?_)
            refine goesN Try.func38 #[.agg #[.slice Aoz2 t110.length coz2, .int .i64 t113]] ?_
            with_reducible refine (impl_RowsOk.calls k _ _ t110 t113 t131 _ ?side1 ?side2 A36.out).mono ?_
            (case side1 => repeat (first | exact (Kd.R_reads' HOz3.out).2.2 | (with_reducible refine Kd.C_alloc ?_ _) | (with_reducible refine Kd.C_drewN ?_ _) | (with_reducible refine Kd.C_drew ?_)))
            (case side2 => exact (Kd.R_reads' HOz3.out).2.1)
            rintro e wy4 ⟨rfl, hb⟩
            refine ⟨_, rfl, ?_⟩
            replace HOz1 := Aside0.mk (Kd.R_below (rX HOz1.out) hb)
            replace HOz2 := Aside0.mk (Kd.R_below (rX HOz2.out) hb)
            replace HOz3 := Aside0.mk (Kd.R_below (rX HOz3.out) hb)
            replace HOz4 := Aside0.mk (Kd.R_below (rX HOz4.out) hb)
            replace HOz5 := Aside0.mk (Kd.R_below (rX HOz5.out) hb)
            replace HOy1 := Aside0.mk (Kd.R_below (rX HOy1.out) hb)
            replace BKz1 := Aside0.mk (blk_below (bX BKz1.out) hb)
            replace BKz2 := Aside0.mk (blk_below (bX BKz2.out) hb)
            replace BKz3 := Aside0.mk (blk_below (bX BKz3.out) hb)
            replace BKz4 := Aside0.mk (blk_below (bX BKz4.out) hb)
            replace HB := Aside0.mk (below_step (hX HB.out) hb)
            (try clear hb)
            (try clear hb2)
            (try clear hk)
            (try clear hi)
            refine hK.out _ _ ⟨cK BKz1.out 0, cK BKz1.out 1, cK BKz2.out 0, cK BKz2.out 1, cK BKz3.out 0, cK BKz3.out 1⟩ (fun hHeld => ?_)
            clear hK K
            refine nZ 43 ?_
            refine oZ 9 (some 45) (bm 30 1023) HT_.out (fun K hK => ?_)
            refine goesN Try.func39 #[.agg #[.slice Aoz2 t110.length coz2, .int .i64 t113]] ?_
            with_reducible refine (spec_RowsOk.calls k _ _ t110 t113 t132 _ ?side1 ?side2 A37.out).mono ?_
            (case side1 => repeat (first | exact (Kd.R_reads' HOz3.out).2.2 | (with_reducible refine Kd.C_alloc ?_ _) | (with_reducible refine Kd.C_drewN ?_ _) | (with_reducible refine Kd.C_drew ?_)))
            (case side2 => exact (Kd.R_reads' HOz3.out).2.1)
            rintro e wy5 ⟨rfl, hb⟩
            refine ⟨_, rfl, ?_⟩
            replace HOz1 := Aside0.mk (Kd.R_below (rX HOz1.out) hb)
            replace HOz2 := Aside0.mk (Kd.R_below (rX HOz2.out) hb)
            replace HOz3 := Aside0.mk (Kd.R_below (rX HOz3.out) hb)
            replace HOz4 := Aside0.mk (Kd.R_below (rX HOz4.out) hb)
            replace HOz5 := Aside0.mk (Kd.R_below (rX HOz5.out) hb)
            replace HOy1 := Aside0.mk (Kd.R_below (rX HOy1.out) hb)
            replace BKz1 := Aside0.mk (blk_below (bX BKz1.out) hb)
            replace BKz2 := Aside0.mk (blk_below (bX BKz2.out) hb)
            replace BKz3 := Aside0.mk (blk_below (bX BKz3.out) hb)
            replace BKz4 := Aside0.mk (blk_below (bX BKz4.out) hb)
            replace HB := Aside0.mk (below_step (hX HB.out) hb)
            (try clear hb)
            (try clear hb2)
            (try clear hk)
            (try clear hi)
            refine hK.out _ _ ⟨cK BKz1.out 0, cK BKz1.out 1, cK BKz2.out 0, cK BKz2.out 1, cK BKz3.out 0, cK BKz3.out 1⟩ (fun hHeld => ?_)
            clear hK K
            refine nZ 45 ?_
            refine pZ 10 46 (bm 30 2047) HT_.out ?_
            refine pZ 11 47 (bm 30 4095) HT_.out ?_
            refine pZ 12 48 (bm 30 8191) HT_.out ?_
            refine pZ 14 50 (bm 30 24575) HT_.out ?_
            refine pZ 17 53 (bm 30 155647) HT_.out ?_
            refine tZ 13 49 (bm 30 163839) HT_.out HW_.out hHeld ?_
            refine tZ 16 52 (bm 30 229375) HT_.out HW_.out hHeld ?_
            refine oZ 15 (some 51) (bm 30 262143) HT_.out (fun K hK => ?_)
            refine goesN Try.func40 #[.agg #[.slice Aoz3 t115.length coz3, .int .i64 t118], .int .i64 t119] ?_
            with_reducible refine (impl_KeyOf.calls k _ _ t115 t118 t119 t133 _ ?side1 ?side2 A46.out).mono ?_
            (case side1 => repeat (first | exact (Kd.R_reads' HOz4.out).2.2 | (with_reducible refine Kd.C_alloc ?_ _) | (with_reducible refine Kd.C_drewN ?_ _) | (with_reducible refine Kd.C_drew ?_)))
            (case side2 => exact (Kd.R_reads' HOz4.out).2.1)
            rintro e wy6 ⟨rfl, hb⟩
            refine ⟨_, rfl, ?_⟩
            replace HOz1 := Aside0.mk (Kd.R_below (rX HOz1.out) hb)
            replace HOz2 := Aside0.mk (Kd.R_below (rX HOz2.out) hb)
            replace HOz3 := Aside0.mk (Kd.R_below (rX HOz3.out) hb)
            replace HOz4 := Aside0.mk (Kd.R_below (rX HOz4.out) hb)
            replace HOz5 := Aside0.mk (Kd.R_below (rX HOz5.out) hb)
            replace HOy1 := Aside0.mk (Kd.R_below (rX HOy1.out) hb)
            replace BKz1 := Aside0.mk (blk_below (bX BKz1.out) hb)
            replace BKz2 := Aside0.mk (blk_below (bX BKz2.out) hb)
            replace BKz3 := Aside0.mk (blk_below (bX BKz3.out) hb)
            replace BKz4 := Aside0.mk (blk_below (bX BKz4.out) hb)
            replace HB := Aside0.mk (below_step (hX HB.out) hb)
            (try clear hb)
            (try clear hb2)
            (try clear hk)
            (try clear hi)
            refine hK.out _ _ ⟨cK BKz1.out 0, cK BKz1.out 1, cK BKz2.out 0, cK BKz2.out 1, cK BKz3.out 0, cK BKz3.out 1⟩ (fun hHeld => ?_)
            clear hK K
            refine nZ 51 ?_
            refine oZ 18 (some 54) (bm 30 524287) HT_.out (fun K hK => ?_)
            refine goesN Try.func41 #[.agg #[.slice Aoz3 t115.length coz3, .int .i64 t118], .int .i64 t119] ?_
            with_reducible refine (spec_KeyOf.calls k _ _ t115 t118 t119 t134 _ ?side1 ?side2 A47.out).mono ?_
            (case side1 => repeat (first | exact (Kd.R_reads' HOz4.out).2.2 | (with_reducible refine Kd.C_alloc ?_ _) | (with_reducible refine Kd.C_drewN ?_ _) | (with_reducible refine Kd.C_drew ?_)))
            (case side2 => exact (Kd.R_reads' HOz4.out).2.1)
            rintro e wy7 ⟨rfl, hb⟩
            refine ⟨_, rfl, ?_⟩
            replace HOz1 := Aside0.mk (Kd.R_below (rX HOz1.out) hb)
            replace HOz2 := Aside0.mk (Kd.R_below (rX HOz2.out) hb)
            replace HOz3 := Aside0.mk (Kd.R_below (rX HOz3.out) hb)
            replace HOz4 := Aside0.mk (Kd.R_below (rX HOz4.out) hb)
            replace HOz5 := Aside0.mk (Kd.R_below (rX HOz5.out) hb)
            replace HOy1 := Aside0.mk (Kd.R_below (rX HOy1.out) hb)
            replace BKz1 := Aside0.mk (blk_below (bX BKz1.out) hb)
            replace BKz2 := Aside0.mk (blk_below (bX BKz2.out) hb)
            replace BKz3 := Aside0.mk (blk_below (bX BKz3.out) hb)
            replace BKz4 := Aside0.mk (blk_below (bX BKz4.out) hb)
            replace HB := Aside0.mk (below_step (hX HB.out) hb)
            (try clear hb)
            (try clear hb2)
            (try clear hk)
            (try clear hi)
            refine hK.out _ _ ⟨cK BKz1.out 0, cK BKz1.out 1, cK BKz2.out 0, cK BKz2.out 1, cK BKz3.out 0, cK BKz3.out 1⟩ (fun hHeld => ?_)
            clear hK K
            refine nZ 54 ?_
            refine pZ 19 55 (bm 30 1048575) HT_.out ?_
            refine pZ 20 56 (bm 30 2097151) HT_.out ?_
            refine pZ 21 57 (bm 30 4194303) HT_.out ?_
            refine pU 22 58 (bm 30 8388607) HT_.out ?_
            refine pU 23 59 (bm 30 16777215) HT_.out ?_
            refine pU 24 60 (bm 30 33554431) HT_.out ?_
            refine pU 25 61 (bm 30 67108863) HT_.out ?_
            refine pU 26 62 (bm 30 134217727) HT_.out ?_
            refine pU 27 63 (bm 30 268435455) HT_.out ?_
            refine pU 28 64 (bm 30 536870911) HT_.out ?_
            refine pZ 29 65 (bm 30 1073741823) HT_.out ?_
            refine done_ (done_of HT_.out (by kernel_rfl)) ?_
            try go_wp2
            go_meet
            case rel => exact ⟨_, (true), rS, H', ⟨by first | omega | exact Nat.le_refl _⟩, ⟨(rT (h := by exact Kd.R_mono HOz2.out (fun _ hk => ⟨hk.1.1, ⟨hk.1.2.1, ⟨hk.1.2.2.1, hk.1.2.2.2⟩⟩⟩)))⟩, ⟨(rT (h := by exact Kd.R_mono HOz1.out (fun _ hk => ⟨hk.1.1, ⟨hk.1.2.1, ⟨hk.1.2.2.1, hk.1.2.2.2⟩⟩⟩)))⟩, ⟨(rT (h := by exact Kd.R_mono HOz3.out (fun _ hk => ⟨hk.1.2.1, ⟨hk.1.1, ⟨hk.1.2.2.1, hk.1.2.2.2⟩⟩⟩)))⟩, ⟨(rT (h := by exact Kd.R_mono HOz4.out (fun _ hk => ⟨hk.1.2.1, ⟨hk.1.1, ⟨hk.1.2.2.1, hk.1.2.2.2⟩⟩⟩)))⟩, ⟨(rT (h := by exact Kd.R_mono HOz5.out (fun _ hk => ⟨hk.1.2.1, ⟨hk.1.1, ⟨hk.1.2.2.1, hk.1.2.2.2⟩⟩⟩)))⟩, ⟨(bX BKz1.out)⟩, ⟨(bX BKz2.out)⟩, ⟨(bX BKz3.out)⟩, ⟨(bX BKz4.out)⟩, ⟨(hX HB.out)⟩⟩
      · replace c35 := Bool.eq_false_iff.mpr c35
        subst c35
        rw [if_neg nft] at H
        have H' := Aside0.mk H
        clear H
        try go_wp2
        have ny1 : Aside0 (Kd.R (Kd.int .i64) 3 ((wz9.setCell ⟨gbz4, 0, none⟩ (.slice Aoz4 t121.length coz4)).setCell ⟨gbz4, 1, none⟩ (.int .i64 t124)) w.heap.size (fun k_ => some k_ ≠ (vz2 : Value).ownBlock ∧ some k_ ≠ (.slice Aoz2 t110.length coz2 : Value).ownBlock ∧ some k_ ≠ (.slice Aoz3 t115.length coz3 : Value).ownBlock ∧ some k_ ≠ (.slice Aoz4 t121.length coz4 : Value).ownBlock) (.slice Aoz1 t102.length coz1) t102) := ⟨(rT (h := by exact Kd.R_mono (Kd.R_far (p := ⟨gbz4, 1, none⟩) (Kd.R_far (p := ⟨gbz4, 0, none⟩) (Kd.R_types HOz1.out BKz4.out (by decide)) (fun _ hk => hk.2) (.slice Aoz4 t121.length coz4)) (fun _ hk => hk.2) (.int .i64 t124)) (fun _ hk => ⟨hk.1.1.1.1.2, ⟨hk.1.1.1.2, ⟨hk.1.1.2, hk.1.2⟩⟩⟩)))⟩
        have ny2 : Aside0 (Kd.R (Kd.int .i64) 3 ((wz9.setCell ⟨gbz4, 0, none⟩ (.slice Aoz4 t121.length coz4)).setCell ⟨gbz4, 1, none⟩ (.int .i64 t124)) w.heap.size (fun k_ => some k_ ≠ (.slice Aoz1 t102.length coz1 : Value).ownBlock ∧ some k_ ≠ (.slice Aoz2 t110.length coz2 : Value).ownBlock ∧ some k_ ≠ (.slice Aoz3 t115.length coz3 : Value).ownBlock ∧ some k_ ≠ (.slice Aoz4 t121.length coz4 : Value).ownBlock) vz2 t107) := ⟨(rT (h := by exact Kd.R_mono (Kd.R_far (p := ⟨gbz4, 1, none⟩) (Kd.R_far (p := ⟨gbz4, 0, none⟩) (Kd.R_types HOz2.out BKz4.out (by decide)) (fun _ hk => hk.2) (.slice Aoz4 t121.length coz4)) (fun _ hk => hk.2) (.int .i64 t124)) (fun _ hk => ⟨hk.1.1.1.1.2, ⟨hk.1.1.1.2, ⟨hk.1.1.2, hk.1.2⟩⟩⟩)))⟩
        have ny3 : Aside0 (Kd.R (Kd.int .i64) 3 ((wz9.setCell ⟨gbz4, 0, none⟩ (.slice Aoz4 t121.length coz4)).setCell ⟨gbz4, 1, none⟩ (.int .i64 t124)) w.heap.size (fun k_ => some k_ ≠ (.slice Aoz1 t102.length coz1 : Value).ownBlock ∧ some k_ ≠ (vz2 : Value).ownBlock ∧ some k_ ≠ (.slice Aoz3 t115.length coz3 : Value).ownBlock ∧ some k_ ≠ (.slice Aoz4 t121.length coz4 : Value).ownBlock) (.slice Aoz2 t110.length coz2) t110) := ⟨(rT (h := by exact Kd.R_mono (Kd.R_far (p := ⟨gbz4, 1, none⟩) (Kd.R_far (p := ⟨gbz4, 0, none⟩) (Kd.R_types HOz3.out BKz4.out (by decide)) (fun _ hk => hk.2) (.slice Aoz4 t121.length coz4)) (fun _ hk => hk.2) (.int .i64 t124)) (fun _ hk => ⟨hk.1.1.1.1.2, ⟨hk.1.1.1.2, ⟨hk.1.1.2, hk.1.2⟩⟩⟩)))⟩
        have ny4 : Aside0 (Kd.R (Kd.int .i64) 3 ((wz9.setCell ⟨gbz4, 0, none⟩ (.slice Aoz4 t121.length coz4)).setCell ⟨gbz4, 1, none⟩ (.int .i64 t124)) w.heap.size (fun k_ => some k_ ≠ (.slice Aoz1 t102.length coz1 : Value).ownBlock ∧ some k_ ≠ (vz2 : Value).ownBlock ∧ some k_ ≠ (.slice Aoz2 t110.length coz2 : Value).ownBlock ∧ some k_ ≠ (.slice Aoz4 t121.length coz4 : Value).ownBlock) (.slice Aoz3 t115.length coz3) t115) := ⟨(rT (h := by exact Kd.R_mono (Kd.R_far (p := ⟨gbz4, 1, none⟩) (Kd.R_far (p := ⟨gbz4, 0, none⟩) (Kd.R_types HOz4.out BKz4.out (by decide)) (fun _ hk => hk.2) (.slice Aoz4 t121.length coz4)) (fun _ hk => hk.2) (.int .i64 t124)) (fun _ hk => ⟨hk.1.1.1.1.2, ⟨hk.1.1.1.2, ⟨hk.1.1.2, hk.1.2⟩⟩⟩)))⟩
        have ny5 : Aside0 (Kd.R (Kd.int .i64) 3 ((wz9.setCell ⟨gbz4, 0, none⟩ (.slice Aoz4 t121.length coz4)).setCell ⟨gbz4, 1, none⟩ (.int .i64 t124)) w.heap.size (fun k_ => some k_ ≠ (.slice Aoz1 t102.length coz1 : Value).ownBlock ∧ some k_ ≠ (vz2 : Value).ownBlock ∧ some k_ ≠ (.slice Aoz2 t110.length coz2 : Value).ownBlock ∧ some k_ ≠ (.slice Aoz3 t115.length coz3 : Value).ownBlock) (.slice Aoz4 t121.length coz4) t121) := ⟨(rT (h := by exact Kd.R_mono (Kd.R_far (p := ⟨gbz4, 1, none⟩) (Kd.R_far (p := ⟨gbz4, 0, none⟩) (Kd.R_types HOz5.out BKz4.out (by decide)) (fun _ hk => hk.2) (.slice Aoz4 t121.length coz4)) (fun _ hk => hk.2) (.int .i64 t124)) (fun _ hk => ⟨hk.1.1.1.1.2, ⟨hk.1.1.1.2, ⟨hk.1.1.2, hk.1.2⟩⟩⟩)))⟩
        have ny6 : Aside0 (((wz9.setCell ⟨gbz4, 0, none⟩ (.slice Aoz4 t121.length coz4)).setCell ⟨gbz4, 1, none⟩ (.int .i64 t124)).heap[gbz1]? = some (.cells #[.slice Aoz1 t102.length coz1, .int .i64 t105] 24 (0, 0))) := ⟨(bF BKz1.out)⟩
        have ny7 : Aside0 (((wz9.setCell ⟨gbz4, 0, none⟩ (.slice Aoz4 t121.length coz4)).setCell ⟨gbz4, 1, none⟩ (.int .i64 t124)).heap[gbz2]? = some (.cells #[.slice Aoz2 t110.length coz2, .int .i64 t113] 24 (0, 0))) := ⟨(bF BKz2.out)⟩
        have ny8 : Aside0 (((wz9.setCell ⟨gbz4, 0, none⟩ (.slice Aoz4 t121.length coz4)).setCell ⟨gbz4, 1, none⟩ (.int .i64 t124)).heap[gbz3]? = some (.cells #[.slice Aoz3 t115.length coz3, .int .i64 t118] 24 (0, 0))) := ⟨(bF BKz3.out)⟩
        have ny9 : Aside0 (((wz9.setCell ⟨gbz4, 0, none⟩ (.slice Aoz4 t121.length coz4)).setCell ⟨gbz4, 1, none⟩ (.int .i64 t124)).heap[gbz4]? = some (.cells #[.slice Aoz4 t121.length coz4, .int .i64 t124] 24 (0, 0))) := ⟨(bP BKz4.out)⟩
        have ny10 : Aside0 (Below w.heap.size w ((wz9.setCell ⟨gbz4, 0, none⟩ (.slice Aoz4 t121.length coz4)).setCell ⟨gbz4, 1, none⟩ (.int .i64 t124))) := ⟨(hX HB.out)⟩
        (try clear HOz1)
        (try clear HOz2)
        (try clear HOz3)
        (try clear HOz4)
        (try clear HOz5)
        (try clear BKz1)
        (try clear BKz2)
        (try clear BKz3)
        (try clear BKz4)
        (try clear HB)
        generalize ((wz9.setCell ⟨gbz4, 0, none⟩ (.slice Aoz4 t121.length coz4)).setCell ⟨gbz4, 1, none⟩ (.int .i64 t124)) = wy1 at ny1 ny2 ny3 ny4 ny5 ny6 ny7 ny8 ny9 ny10 ⊢
        have HOz1 := ny1
        have HOz2 := ny2
        have HOz3 := ny3
        have HOz4 := ny4
        have HOz5 := ny5
        have BKz1 := ny6
        have BKz2 := ny7
        have BKz3 := ny8
        have BKz4 := ny9
        have HB := ny10
        clear ny1 ny2 ny3 ny4 ny5 ny6 ny7 ny8 ny9 ny10
        replace HOz1 := Aside0.mk (Kd.R_drew HOz1.out)
        replace HOz2 := Aside0.mk (Kd.R_drew HOz2.out)
        replace HOz3 := Aside0.mk (Kd.R_drew HOz3.out)
        replace HOz4 := Aside0.mk (Kd.R_drew HOz4.out)
        replace HOz5 := Aside0.mk (Kd.R_drew HOz5.out)
        replace BKz1 := Aside0.mk (blk_drew BKz1.out)
        replace BKz2 := Aside0.mk (blk_drew BKz2.out)
        replace BKz3 := Aside0.mk (blk_drew BKz3.out)
        replace BKz4 := Aside0.mk (blk_drew BKz4.out)
        replace HB := Aside0.mk (below_drew1 HB.out)
        refine start_ (n := 30) (S := fun w' => w'.cell? ⟨gbz1, 0, none⟩ = some (.slice Aoz1 t102.length coz1) ∧ w'.cell? ⟨gbz1, 1, none⟩ = some (.int .i64 t105)) (ds := []) (bm 30 0) (by kernel_rfl) rfl (by kernel_rfl) ⟨cK BKz1.out 0, cK BKz1.out 1⟩ (fun hHeld => ?_); refine with_tabW laws_FnRows.tab8 laws_FnRows.bits8 (fun HT_ HW_ => ?_)
        generalize wy1.drew = wy2 at HOz1 HOz2 HOz3 HOz4 HOz5 BKz1 BKz2 BKz3 BKz4 HB hHeld ⊢
        refine pZ 0 36 (bm 30 1) HT_.out ?_
        refine tZ 1 37 (bm 30 3) HT_.out HW_.out hHeld ?_
        refine oZ 2 (some 38) (bm 30 7) HT_.out (fun K hK => ?_)
        refine goesN Try.func37 #[.agg #[.slice Aoz1 t102.length coz1, .int .i64 t105]] ?_
        with_reducible refine (spec_WordsOf.calls k _ _ t102 t105 t127 _ ?side1 ?side2 A33.out).mono ?_
        (case side1 => repeat (first | exact (Kd.R_reads' HOz1.out).2.2 | (with_reducible refine Kd.C_alloc ?_ _) | (with_reducible refine Kd.C_drewN ?_ _) | (with_reducible refine Kd.C_drew ?_)))
        (case side2 => exact (Kd.R_reads' HOz1.out).2.1)
        rintro e wy3 ⟨vy1, rfl, hoz1, hb⟩
        refine ⟨_, rfl, ?_⟩
        have HOy1 := Aside0.mk (Kd.R_lower (Kd.R_new' (Kd.R_new' (Kd.R_new' (Kd.R_new' (Kd.R_new' hoz1 (Kd.R_lt (rX HOz1.out))) (Kd.R_lt (rX HOz2.out))) (Kd.R_lt (rX HOz3.out))) (Kd.R_lt (rX HOz4.out))) (Kd.R_lt (rX HOz5.out))) (below_size (hX HB.out)))
        replace HOz1 := Aside0.mk (Kd.R_elder' (rX HOz1.out) (Kd.R_base hoz1) hb)
        replace HOz2 := Aside0.mk (Kd.R_elder' (rX HOz2.out) (Kd.R_base hoz1) hb)
        replace HOz3 := Aside0.mk (Kd.R_elder' (rX HOz3.out) (Kd.R_base hoz1) hb)
        replace HOz4 := Aside0.mk (Kd.R_elder' (rX HOz4.out) (Kd.R_base hoz1) hb)
        replace HOz5 := Aside0.mk (Kd.R_elder' (rX HOz5.out) (Kd.R_base hoz1) hb)
        replace BKz1 := Aside0.mk (blk_below (bX BKz1.out) hb)
        replace BKz2 := Aside0.mk (blk_below (bX BKz2.out) hb)
        replace BKz3 := Aside0.mk (blk_below (bX BKz3.out) hb)
        replace BKz4 := Aside0.mk (blk_below (bX BKz4.out) hb)
        replace HB := Aside0.mk (below_step (hX HB.out) hb)
        (try clear hb)
        (try clear hb2)
        (try clear hk)
        (try clear hi)
        (try clear hoz1)
        obtain ⟨Aoy1, coy1, eoy1⟩ := Kd.R_slice HOz2.out
        (first | subst eoy1 | (injection eoy1 with f1_ f2_ f3_; have fy1 := f1_.symm; have fy2 := f3_.symm; clear f1_ f2_ f3_; subst fy1; subst fy2))
        obtain ⟨Aoy2, coy2, eoy2⟩ := Kd.R_slice HOy1.out
        (first | subst eoy2 | (injection eoy2 with f1_ f2_ f3_; have fy1 := f1_.symm; have fy2 := f3_.symm; clear f1_ f2_ f3_; subst fy1; subst fy2))
        refine hK.out _ _ ⟨cK BKz1.out 0, cK BKz1.out 1⟩ (fun hHeld => ?_)
        clear hK K
        refine nZ 38 ?_
        refine oZ 3 (some 39) (bm 30 15) HT_.out (fun K hK => ?_)
        refine goesN Try.func36 #[.slice Aoy1 t107.length coy1, .slice Aoy2 t127.length coy2] ?_
        with_reducible refine (laws_sameInts.calls k _ _ t107 _ _ t127 false _ ?side1 ?side2 ?side3 ?side4 A34.out).mono ?_
        (case side1 => repeat (first | exact (Kd.R_reads' HOz2.out).2.2 | (with_reducible refine Kd.C_alloc ?_ _) | (with_reducible refine Kd.C_drewN ?_ _) | (with_reducible refine Kd.C_drew ?_)))
        (case side2 => exact (Kd.R_reads' HOz2.out).2.1)
        (case side3 => repeat (first | exact (Kd.R_reads' HOy1.out).2.2 | (with_reducible refine Kd.C_alloc ?_ _) | (with_reducible refine Kd.C_drewN ?_ _) | (with_reducible refine Kd.C_drew ?_)))
        (case side4 => exact (Kd.R_reads' HOy1.out).2.1)
        rintro e w' ⟨rfl, ⟨nd, rfl⟩⟩
        refine ⟨_, rfl, ?_⟩
        refine hK.out _ _ ⟨cK BKz1.out 0, cK BKz1.out 1⟩ (fun hHeld => ?_)
        clear hK K
        refine nZ 39 ?_
        refine pZ 4 40 (bm 30 31) HT_.out ?_
        refine pZ 5 41 (bm 30 63) HT_.out ?_
        refine pU 6 42 (bm 30 127) HT_.out ?_
        refine pU 7 43 (bm 30 255) HT_.out ?_
        refine pU 8 44 (bm 30 511) HT_.out ?_
        refine pU 9 45 (bm 30 1023) HT_.out ?_
        refine pU 10 46 (bm 30 2047) HT_.out ?_
        refine pZ 11 47 (bm 30 4095) HT_.out ?_
        refine pZ 12 48 (bm 30 8191) HT_.out ?_
        refine pU 13 49 (bm 30 16383) HT_.out ?_
        refine pU 14 50 (bm 30 32767) HT_.out ?_
        refine pU 15 51 (bm 30 65535) HT_.out ?_
        refine pU 16 52 (bm 30 131071) HT_.out ?_
        refine pU 17 53 (bm 30 262143) HT_.out ?_
        refine pU 18 54 (bm 30 524287) HT_.out ?_
        refine pU 19 55 (bm 30 1048575) HT_.out ?_
        refine pZ 20 56 (bm 30 2097151) HT_.out ?_
        refine pZ 21 57 (bm 30 4194303) HT_.out ?_
        refine pU 22 58 (bm 30 8388607) HT_.out ?_
        refine pU 23 59 (bm 30 16777215) HT_.out ?_
        refine pU 24 60 (bm 30 33554431) HT_.out ?_
        refine pU 25 61 (bm 30 67108863) HT_.out ?_
        refine pU 26 62 (bm 30 134217727) HT_.out ?_
        refine pU 27 63 (bm 30 268435455) HT_.out ?_
        refine pU 28 64 (bm 30 536870911) HT_.out ?_
        refine pZ 29 65 (bm 30 1073741823) HT_.out ?_
        refine done_ (done_of HT_.out (by kernel_rfl)) ?_
        try go_wp2
        go_meet
        case rel => exact ⟨_, (true), rS, H', ⟨by first | omega | exact Nat.le_refl _⟩, ⟨(rT (h := by exact Kd.R_mono HOz2.out (fun _ hk => ⟨hk.1.1, ⟨hk.1.2.1, ⟨hk.1.2.2.1, hk.1.2.2.2⟩⟩⟩)))⟩, ⟨(rT (h := by exact Kd.R_mono HOz1.out (fun _ hk => ⟨hk.1.1, ⟨hk.1.2.1, ⟨hk.1.2.2.1, hk.1.2.2.2⟩⟩⟩)))⟩, ⟨(rT (h := by exact Kd.R_mono HOz3.out (fun _ hk => ⟨hk.1.2.1, ⟨hk.1.1, ⟨hk.1.2.2.1, hk.1.2.2.2⟩⟩⟩)))⟩, ⟨(rT (h := by exact Kd.R_mono HOz4.out (fun _ hk => ⟨hk.1.2.1, ⟨hk.1.1, ⟨hk.1.2.2.1, hk.1.2.2.2⟩⟩⟩)))⟩, ⟨(rT (h := by exact Kd.R_mono HOz5.out (fun _ hk => ⟨hk.1.2.1, ⟨hk.1.1, ⟨hk.1.2.2.1, hk.1.2.2.2⟩⟩⟩)))⟩, ⟨(bX BKz1.out)⟩, ⟨(bX BKz2.out)⟩, ⟨(bX BKz3.out)⟩, ⟨(bX BKz4.out)⟩, ⟨(hX HB.out)⟩⟩
    case rest =>
      clear HC9
      try clear p2
      try clear c3
      try clear c4
      try clear c35
      try clear c36
      try clear c37
      try clear c39
      try clear c40
      try clear c41
      obtain ⟨kq, x65_8, rfl, HA, HJy1, HO_y1, HO_y2, HO_y3, HO_y4, HO_y5, BKz1, BKz2, BKz3, BKz4, HB⟩ := hcut
      cases kq with
      | zero => exact absurd HA.out (by simp [laws_FnRows.j0])
      | succ kj8 =>
        have H := HA.out
        clear HA
        simp only [laws_FnRows.j0] at H
        by_cases c76 : x65_8 = true
        · subst c76
          rw [if_pos rfl] at H
          obtain rfl := Option.some.inj H
          go_wp2
          go_ret
          exact ⟨rE, (hX HB.out)⟩
        · replace c76 := Bool.eq_false_iff.mpr c76
          subst c76
          rw [if_neg nft] at H
          replace H := bE H; obtain ⟨⟨t137, t140⟩, A77, H⟩ := H
          try dsimp only at H
          have HC78 := Aside0.mk H
          clear H
          go_upto_region 11 with (first | ((with_reducible refine gate_callee (f := 44) rfl ?_); refine goesM 44 66 Try.func44 #[] ?_; refine (impl_RowsNew.calls  t137 t140 _ A77.out).mono ?_; rintro e wx1 ⟨vx1, rfl, hoz1, hb⟩; refine ⟨_, rfl, ?_⟩; have HOx1 := Aside0.mk (Kd.R_lower (Kd.R_new' (Kd.R_new' (Kd.R_new' (Kd.R_new' (Kd.R_new' hoz1 (Kd.R_lt (rX HO_y1.out))) (Kd.R_lt (rX HO_y2.out))) (Kd.R_lt (rX HO_y3.out))) (Kd.R_lt (rX HO_y4.out))) (Kd.R_lt (rX HO_y5.out))) (below_size (hX HB.out))); replace HO_y1 := Aside0.mk (Kd.R_elder' (rX HO_y1.out) (Kd.R_base hoz1) hb); replace HO_y2 := Aside0.mk (Kd.R_elder' (rX HO_y2.out) (Kd.R_base hoz1) hb); replace HO_y3 := Aside0.mk (Kd.R_elder' (rX HO_y3.out) (Kd.R_base hoz1) hb); replace HO_y4 := Aside0.mk (Kd.R_elder' (rX HO_y4.out) (Kd.R_base hoz1) hb); replace HO_y5 := Aside0.mk (Kd.R_elder' (rX HO_y5.out) (Kd.R_base hoz1) hb); replace BKz1 := Aside0.mk (blk_below (bX BKz1.out) hb); replace BKz2 := Aside0.mk (blk_below (bX BKz2.out) hb); replace BKz3 := Aside0.mk (blk_below (bX BKz3.out) hb); replace BKz4 := Aside0.mk (blk_below (bX BKz4.out) hb); replace HB := Aside0.mk (below_step (hX HB.out) hb); clear hb hoz1) | ((with_reducible refine gate_dst (N := 10) rfl ?_); refine boxE 10 #[.slice none 0 0, .int .i64 0] 24 ?_; intro gbx1 hg wx2 hbox hb; have BKx1 := Aside0.mk (hbox); have GWx1 := Aside0.mk (gX' hg (hX HB.out)); have GEx1 := Aside0.mk (gX' hg (hX HB.out)); have NBx1 := Aside0.mk (gL hg (bX BKz1.out)); have NBx2 := Aside0.mk (gG hg (bX BKz1.out)); have NBx3 := Aside0.mk (gL hg (bX BKz2.out)); have NBx4 := Aside0.mk (gG hg (bX BKz2.out)); have NBx5 := Aside0.mk (gL hg (bX BKz3.out)); have NBx6 := Aside0.mk (gG hg (bX BKz3.out)); have NBx7 := Aside0.mk (gL hg (bX BKz4.out)); have NBx8 := Aside0.mk (gG hg (bX BKz4.out)); replace HO_y1 := Aside0.mk (Kd.R_below (rX HO_y1.out) hb); replace HO_y2 := Aside0.mk (Kd.R_below (rX HO_y2.out) hb); replace HO_y3 := Aside0.mk (Kd.R_below (rX HO_y3.out) hb); replace HO_y4 := Aside0.mk (Kd.R_below (rX HO_y4.out) hb); replace HO_y5 := Aside0.mk (Kd.R_below (rX HO_y5.out) hb); replace HOx1 := Aside0.mk (Kd.R_below (rX HOx1.out) hb); replace BKz1 := Aside0.mk (blk_below (bX BKz1.out) hb); replace BKz2 := Aside0.mk (blk_below (bX BKz2.out) hb); replace BKz3 := Aside0.mk (blk_below (bX BKz3.out) hb); replace BKz4 := Aside0.mk (blk_below (bX BKz4.out) hb); replace HB := Aside0.mk (below_step (hX HB.out) hb); clear hb hbox hg; obtain ⟨Aox1, cox1, eox1⟩ := Kd.R_slice HOx1.out; subst eox1; have hnbx1 := NBx2.out; have hncx1 := NBx1.out; have hnbx2 := NBx4.out; have hncx2 := NBx3.out; have hnbx3 := NBx6.out; have hncx3 := NBx5.out; have hnbx4 := NBx8.out; have hncx4 := NBx7.out; obtain ⟨hczx1, hczx2, hfzx1, hfzx2⟩ := cZ2 BKx1.out))
          (try simp only [Act.put, List.setIfInBounds_toArray, List.set_cons_zero, List.set_cons_succ])
          go_cut [76] (fun vx2 wc => ∃ (kq : Nat) (x76_77 : Bool), vx2 = .bool x76_77 ∧ Aside0 (laws_FnRows.j1 kq t107 x76_77 t102 t105 = some r) ∧ Aside0 (kq ≤ kj8) ∧ Aside0 (Kd.R (Kd.int .i64) 3 wc w.heap.size (fun k_ => some k_ ≠ ((.slice Aoz1 t102.length coz1) : Value).ownBlock ∧ some k_ ≠ ((.slice Aoz2 t110.length coz2) : Value).ownBlock ∧ some k_ ≠ ((.slice Aoz3 t115.length coz3) : Value).ownBlock ∧ some k_ ≠ ((.slice Aoz4 t121.length coz4) : Value).ownBlock ∧ some k_ ≠ ((.slice Aox1 t137.length cox1) : Value).ownBlock) vz2 t107) ∧ Aside0 (Kd.R (Kd.int .i64) 3 wc w.heap.size (fun k_ => some k_ ≠ (vz2 : Value).ownBlock ∧ some k_ ≠ ((.slice Aoz2 t110.length coz2) : Value).ownBlock ∧ some k_ ≠ ((.slice Aoz3 t115.length coz3) : Value).ownBlock ∧ some k_ ≠ ((.slice Aoz4 t121.length coz4) : Value).ownBlock ∧ some k_ ≠ ((.slice Aox1 t137.length cox1) : Value).ownBlock) (.slice Aoz1 t102.length coz1) t102) ∧ Aside0 (Kd.R (Kd.int .i64) 3 wc w.heap.size (fun k_ => some k_ ≠ (vz2 : Value).ownBlock ∧ some k_ ≠ ((.slice Aoz1 t102.length coz1) : Value).ownBlock ∧ some k_ ≠ ((.slice Aoz3 t115.length coz3) : Value).ownBlock ∧ some k_ ≠ ((.slice Aoz4 t121.length coz4) : Value).ownBlock ∧ some k_ ≠ ((.slice Aox1 t137.length cox1) : Value).ownBlock) (.slice Aoz2 t110.length coz2) t110) ∧ Aside0 (Kd.R (Kd.int .i64) 3 wc w.heap.size (fun k_ => some k_ ≠ (vz2 : Value).ownBlock ∧ some k_ ≠ ((.slice Aoz1 t102.length coz1) : Value).ownBlock ∧ some k_ ≠ ((.slice Aoz2 t110.length coz2) : Value).ownBlock ∧ some k_ ≠ ((.slice Aoz4 t121.length coz4) : Value).ownBlock ∧ some k_ ≠ ((.slice Aox1 t137.length cox1) : Value).ownBlock) (.slice Aoz3 t115.length coz3) t115) ∧ Aside0 (Kd.R (Kd.int .i64) 3 wc w.heap.size (fun k_ => some k_ ≠ (vz2 : Value).ownBlock ∧ some k_ ≠ ((.slice Aoz1 t102.length coz1) : Value).ownBlock ∧ some k_ ≠ ((.slice Aoz2 t110.length coz2) : Value).ownBlock ∧ some k_ ≠ ((.slice Aoz3 t115.length coz3) : Value).ownBlock ∧ some k_ ≠ ((.slice Aox1 t137.length cox1) : Value).ownBlock) (.slice Aoz4 t121.length coz4) t121) ∧ Aside0 (Kd.R (Kd.int .i64) 3 wc w.heap.size (fun k_ => some k_ ≠ (vz2 : Value).ownBlock ∧ some k_ ≠ ((.slice Aoz1 t102.length coz1) : Value).ownBlock ∧ some k_ ≠ ((.slice Aoz2 t110.length coz2) : Value).ownBlock ∧ some k_ ≠ ((.slice Aoz3 t115.length coz3) : Value).ownBlock ∧ some k_ ≠ ((.slice Aoz4 t121.length coz4) : Value).ownBlock) (.slice Aox1 t137.length cox1) t137) ∧ Aside0 (wc.heap[gbz1]? = some (.cells #[(.slice Aoz1 t102.length coz1), .int .i64 t105] 24 (0, 0))) ∧ Aside0 (wc.heap[gbz2]? = some (.cells #[(.slice Aoz2 t110.length coz2), .int .i64 t113] 24 (0, 0))) ∧ Aside0 (wc.heap[gbz3]? = some (.cells #[(.slice Aoz3 t115.length coz3), .int .i64 t118] 24 (0, 0))) ∧ Aside0 (wc.heap[gbz4]? = some (.cells #[(.slice Aoz4 t121.length coz4), .int .i64 t124] 24 (0, 0))) ∧ Aside0 (wc.heap[gbx1]? = some (.cells #[(.slice Aox1 t137.length cox1), .int .i64 t140] 24 (0, 0))) ∧ Aside0 (Below w.heap.size w wc))
          case first =>
            have H := HC78.out
            clear HC78
            replace H := bE H; obtain ⟨t142, A87, H⟩ := H
            try go_wp2
            have nw1 : Aside0 (Kd.R (Kd.int .i64) 3 ((wx2.setCell ⟨gbx1, 0, none⟩ (.slice Aox1 t137.length cox1)).setCell ⟨gbx1, 1, none⟩ (.int .i64 t140)) w.heap.size (fun k_ => some k_ ≠ (.slice Aoz1 t102.length coz1 : Value).ownBlock ∧ some k_ ≠ (.slice Aoz2 t110.length coz2 : Value).ownBlock ∧ some k_ ≠ (.slice Aoz3 t115.length coz3 : Value).ownBlock ∧ some k_ ≠ (.slice Aoz4 t121.length coz4 : Value).ownBlock ∧ some k_ ≠ (.slice Aox1 t137.length cox1 : Value).ownBlock) vz2 t107) := ⟨(rT (h := by exact Kd.R_mono (Kd.R_far (p := ⟨gbx1, 1, none⟩) (Kd.R_far (p := ⟨gbx1, 0, none⟩) (Kd.R_types HO_y1.out BKx1.out (by decide)) (fun _ hk => hk.2) (.slice Aox1 t137.length cox1)) (fun _ hk => hk.2) (.int .i64 t140)) (fun _ hk => ⟨hk.1.1.1, ⟨hk.1.1.2.1, ⟨hk.1.1.2.2.1, ⟨hk.1.1.2.2.2, hk.1.2⟩⟩⟩⟩)))⟩
            have nw2 : Aside0 (Kd.R (Kd.int .i64) 3 ((wx2.setCell ⟨gbx1, 0, none⟩ (.slice Aox1 t137.length cox1)).setCell ⟨gbx1, 1, none⟩ (.int .i64 t140)) w.heap.size (fun k_ => some k_ ≠ (vz2 : Value).ownBlock ∧ some k_ ≠ (.slice Aoz2 t110.length coz2 : Value).ownBlock ∧ some k_ ≠ (.slice Aoz3 t115.length coz3 : Value).ownBlock ∧ some k_ ≠ (.slice Aoz4 t121.length coz4 : Value).ownBlock ∧ some k_ ≠ (.slice Aox1 t137.length cox1 : Value).ownBlock) (.slice Aoz1 t102.length coz1) t102) := ⟨(rT (h := by exact Kd.R_mono (Kd.R_far (p := ⟨gbx1, 1, none⟩) (Kd.R_far (p := ⟨gbx1, 0, none⟩) (Kd.R_types HO_y2.out BKx1.out (by decide)) (fun _ hk => hk.2) (.slice Aox1 t137.length cox1)) (fun _ hk => hk.2) (.int .i64 t140)) (fun _ hk => ⟨hk.1.1.1, ⟨hk.1.1.2.1, ⟨hk.1.1.2.2.1, ⟨hk.1.1.2.2.2, hk.1.2⟩⟩⟩⟩)))⟩
            have nw3 : Aside0 (Kd.R (Kd.int .i64) 3 ((wx2.setCell ⟨gbx1, 0, none⟩ (.slice Aox1 t137.length cox1)).setCell ⟨gbx1, 1, none⟩ (.int .i64 t140)) w.heap.size (fun k_ => some k_ ≠ (vz2 : Value).ownBlock ∧ some k_ ≠ (.slice Aoz1 t102.length coz1 : Value).ownBlock ∧ some k_ ≠ (.slice Aoz3 t115.length coz3 : Value).ownBlock ∧ some k_ ≠ (.slice Aoz4 t121.length coz4 : Value).ownBlock ∧ some k_ ≠ (.slice Aox1 t137.length cox1 : Value).ownBlock) (.slice Aoz2 t110.length coz2) t110) := ⟨(rT (h := by exact Kd.R_mono (Kd.R_far (p := ⟨gbx1, 1, none⟩) (Kd.R_far (p := ⟨gbx1, 0, none⟩) (Kd.R_types HO_y3.out BKx1.out (by decide)) (fun _ hk => hk.2) (.slice Aox1 t137.length cox1)) (fun _ hk => hk.2) (.int .i64 t140)) (fun _ hk => ⟨hk.1.1.1, ⟨hk.1.1.2.1, ⟨hk.1.1.2.2.1, ⟨hk.1.1.2.2.2, hk.1.2⟩⟩⟩⟩)))⟩
            have nw4 : Aside0 (Kd.R (Kd.int .i64) 3 ((wx2.setCell ⟨gbx1, 0, none⟩ (.slice Aox1 t137.length cox1)).setCell ⟨gbx1, 1, none⟩ (.int .i64 t140)) w.heap.size (fun k_ => some k_ ≠ (vz2 : Value).ownBlock ∧ some k_ ≠ (.slice Aoz1 t102.length coz1 : Value).ownBlock ∧ some k_ ≠ (.slice Aoz2 t110.length coz2 : Value).ownBlock ∧ some k_ ≠ (.slice Aoz4 t121.length coz4 : Value).ownBlock ∧ some k_ ≠ (.slice Aox1 t137.length cox1 : Value).ownBlock) (.slice Aoz3 t115.length coz3) t115) := ⟨(rT (h := by exact Kd.R_mono (Kd.R_far (p := ⟨gbx1, 1, none⟩) (Kd.R_far (p := ⟨gbx1, 0, none⟩) (Kd.R_types HO_y4.out BKx1.out (by decide)) (fun _ hk => hk.2) (.slice Aox1 t137.length cox1)) (fun _ hk => hk.2) (.int .i64 t140)) (fun _ hk => ⟨hk.1.1.1, ⟨hk.1.1.2.1, ⟨hk.1.1.2.2.1, ⟨hk.1.1.2.2.2, hk.1.2⟩⟩⟩⟩)))⟩
            have nw5 : Aside0 (Kd.R (Kd.int .i64) 3 ((wx2.setCell ⟨gbx1, 0, none⟩ (.slice Aox1 t137.length cox1)).setCell ⟨gbx1, 1, none⟩ (.int .i64 t140)) w.heap.size (fun k_ => some k_ ≠ (vz2 : Value).ownBlock ∧ some k_ ≠ (.slice Aoz1 t102.length coz1 : Value).ownBlock ∧ some k_ ≠ (.slice Aoz2 t110.length coz2 : Value).ownBlock ∧ some k_ ≠ (.slice Aoz3 t115.length coz3 : Value).ownBlock ∧ some k_ ≠ (.slice Aox1 t137.length cox1 : Value).ownBlock) (.slice Aoz4 t121.length coz4) t121) := ⟨(rT (h := by exact Kd.R_mono (Kd.R_far (p := ⟨gbx1, 1, none⟩) (Kd.R_far (p := ⟨gbx1, 0, none⟩) (Kd.R_types HO_y5.out BKx1.out (by decide)) (fun _ hk => hk.2) (.slice Aox1 t137.length cox1)) (fun _ hk => hk.2) (.int .i64 t140)) (fun _ hk => ⟨hk.1.1.1, ⟨hk.1.1.2.1, ⟨hk.1.1.2.2.1, ⟨hk.1.1.2.2.2, hk.1.2⟩⟩⟩⟩)))⟩
            have nw6 : Aside0 (Kd.R (Kd.int .i64) 3 ((wx2.setCell ⟨gbx1, 0, none⟩ (.slice Aox1 t137.length cox1)).setCell ⟨gbx1, 1, none⟩ (.int .i64 t140)) w.heap.size (fun k_ => some k_ ≠ (vz2 : Value).ownBlock ∧ some k_ ≠ (.slice Aoz1 t102.length coz1 : Value).ownBlock ∧ some k_ ≠ (.slice Aoz2 t110.length coz2 : Value).ownBlock ∧ some k_ ≠ (.slice Aoz3 t115.length coz3 : Value).ownBlock ∧ some k_ ≠ (.slice Aoz4 t121.length coz4 : Value).ownBlock) (.slice Aox1 t137.length cox1) t137) := ⟨(rT (h := by exact Kd.R_mono (Kd.R_far (p := ⟨gbx1, 1, none⟩) (Kd.R_far (p := ⟨gbx1, 0, none⟩) (Kd.R_types HOx1.out BKx1.out (by decide)) (fun _ hk => hk.2) (.slice Aox1 t137.length cox1)) (fun _ hk => hk.2) (.int .i64 t140)) (fun _ hk => ⟨hk.1.1.1.1.1.2, ⟨hk.1.1.1.1.2, ⟨hk.1.1.1.2, ⟨hk.1.1.2, hk.1.2⟩⟩⟩⟩)))⟩
            have nw7 : Aside0 (((wx2.setCell ⟨gbx1, 0, none⟩ (.slice Aox1 t137.length cox1)).setCell ⟨gbx1, 1, none⟩ (.int .i64 t140)).heap[gbz1]? = some (.cells #[.slice Aoz1 t102.length coz1, .int .i64 t105] 24 (0, 0))) := ⟨(bF BKz1.out)⟩
            have nw8 : Aside0 (((wx2.setCell ⟨gbx1, 0, none⟩ (.slice Aox1 t137.length cox1)).setCell ⟨gbx1, 1, none⟩ (.int .i64 t140)).heap[gbz2]? = some (.cells #[.slice Aoz2 t110.length coz2, .int .i64 t113] 24 (0, 0))) := ⟨(bF BKz2.out)⟩
            have nw9 : Aside0 (((wx2.setCell ⟨gbx1, 0, none⟩ (.slice Aox1 t137.length cox1)).setCell ⟨gbx1, 1, none⟩ (.int .i64 t140)).heap[gbz3]? = some (.cells #[.slice Aoz3 t115.length coz3, .int .i64 t118] 24 (0, 0))) := ⟨(bF BKz3.out)⟩
            have nw10 : Aside0 (((wx2.setCell ⟨gbx1, 0, none⟩ (.slice Aox1 t137.length cox1)).setCell ⟨gbx1, 1, none⟩ (.int .i64 t140)).heap[gbz4]? = some (.cells #[.slice Aoz4 t121.length coz4, .int .i64 t124] 24 (0, 0))) := ⟨(bF BKz4.out)⟩
            have nw11 : Aside0 (((wx2.setCell ⟨gbx1, 0, none⟩ (.slice Aox1 t137.length cox1)).setCell ⟨gbx1, 1, none⟩ (.int .i64 t140)).heap[gbx1]? = some (.cells #[.slice Aox1 t137.length cox1, .int .i64 t140] 24 (0, 0))) := ⟨(bP BKx1.out)⟩
            have nw12 : Aside0 (Below w.heap.size w ((wx2.setCell ⟨gbx1, 0, none⟩ (.slice Aox1 t137.length cox1)).setCell ⟨gbx1, 1, none⟩ (.int .i64 t140))) := ⟨(hX HB.out)⟩
            (try clear HO_y1)
            (try clear HO_y2)
            (try clear HO_y3)
            (try clear HO_y4)
            (try clear HO_y5)
            (try clear HOx1)
            (try clear BKz1)
            (try clear BKz2)
            (try clear BKz3)
            (try clear BKz4)
            (try clear BKx1)
            (try clear HB)
            generalize ((wx2.setCell ⟨gbx1, 0, none⟩ (.slice Aox1 t137.length cox1)).setCell ⟨gbx1, 1, none⟩ (.int .i64 t140)) = ww1 at nw1 nw2 nw3 nw4 nw5 nw6 nw7 nw8 nw9 nw10 nw11 nw12 ⊢
            have HO_y1 := nw1
            have HO_y2 := nw2
            have HO_y3 := nw3
            have HO_y4 := nw4
            have HO_y5 := nw5
            have HOx1 := nw6
            have BKz1 := nw7
            have BKz2 := nw8
            have BKz3 := nw9
            have BKz4 := nw10
            have BKx1 := nw11
            have HB := nw12
            clear nw1 nw2 nw3 nw4 nw5 nw6 nw7 nw8 nw9 nw10 nw11 nw12
            replace HO_y1 := Aside0.mk (Kd.R_drew HO_y1.out)
            replace HO_y2 := Aside0.mk (Kd.R_drew HO_y2.out)
            replace HO_y3 := Aside0.mk (Kd.R_drew HO_y3.out)
            replace HO_y4 := Aside0.mk (Kd.R_drew HO_y4.out)
            replace HO_y5 := Aside0.mk (Kd.R_drew HO_y5.out)
            replace HOx1 := Aside0.mk (Kd.R_drew HOx1.out)
            replace BKz1 := Aside0.mk (blk_drew BKz1.out)
            replace BKz2 := Aside0.mk (blk_drew BKz2.out)
            replace BKz3 := Aside0.mk (blk_drew BKz3.out)
            replace BKz4 := Aside0.mk (blk_drew BKz4.out)
            replace BKx1 := Aside0.mk (blk_drew BKx1.out)
            replace HB := Aside0.mk (below_drew1 HB.out)
            refine start_ (n := 10) (S := fun w' => w'.cell? ⟨gbx1, 0, none⟩ = some (.slice Aox1 t137.length cox1) ∧ w'.cell? ⟨gbx1, 1, none⟩ = some (.int .i64 t140)) (ds := []) (bm 10 0) (by kernel_rfl) rfl (by kernel_rfl) ⟨cK BKx1.out 0, cK BKx1.out 1⟩ (fun hHeld => ?_); refine with_tabW laws_FnRows.tab11 laws_FnRows.bits11 (fun HT_ HW_ => ?_)
            generalize ww1.drew = ww2 at HO_y1 HO_y2 HO_y3 HO_y4 HO_y5 HOx1 BKz1 BKz2 BKz3 BKz4 BKx1 HB hHeld ⊢
            refine tZ 0 67 (bm 10 1) HT_.out HW_.out hHeld ?_
            by_cases c88 : t142 = true
            · subst c88
              rw [if_pos rfl] at H
              replace H := bE H; obtain ⟨⟨t143, t146⟩, A89, H⟩ := H
              try dsimp only at H
              have H' := Aside0.mk H
              clear H
              refine oZ 1 (some 68) (bm 10 3) HT_.out (fun K hK => ?_)
              refine goesN Try.func38 #[.agg #[.slice Aox1 t137.length cox1, .int .i64 t140]] ?_
              with_reducible refine (impl_RowsOk.calls kj8 _ _ t137 t140 true _ ?side1 ?side2 A87.out).mono ?_
              (case side1 => repeat (first | exact (Kd.R_reads' HOx1.out).2.2 | (with_reducible refine Kd.C_alloc ?_ _) | (with_reducible refine Kd.C_drewN ?_ _) | (with_reducible refine Kd.C_drew ?_)))
              (case side2 => exact (Kd.R_reads' HOx1.out).2.1)
              rintro e ww3 ⟨rfl, hb⟩
              refine ⟨_, rfl, ?_⟩
              replace HO_y1 := Aside0.mk (Kd.R_below (rX HO_y1.out) hb)
              replace HO_y2 := Aside0.mk (Kd.R_below (rX HO_y2.out) hb)
              replace HO_y3 := Aside0.mk (Kd.R_below (rX HO_y3.out) hb)
              replace HO_y4 := Aside0.mk (Kd.R_below (rX HO_y4.out) hb)
              replace HO_y5 := Aside0.mk (Kd.R_below (rX HO_y5.out) hb)
              replace HOx1 := Aside0.mk (Kd.R_below (rX HOx1.out) hb)
              replace BKz1 := Aside0.mk (blk_below (bX BKz1.out) hb)
              replace BKz2 := Aside0.mk (blk_below (bX BKz2.out) hb)
              replace BKz3 := Aside0.mk (blk_below (bX BKz3.out) hb)
              replace BKz4 := Aside0.mk (blk_below (bX BKz4.out) hb)
              replace BKx1 := Aside0.mk (blk_below (bX BKx1.out) hb)
              replace HB := Aside0.mk (below_step (hX HB.out) hb)
              (try clear hb)
              (try clear hb2)
              (try clear hk)
              (try clear hi)
              refine hK.out _ _ ⟨cK BKx1.out 0, cK BKx1.out 1⟩ (fun hHeld => ?_)
              clear hK K
              refine nZ 68 ?_
              refine pZ 2 69 (bm 10 7) HT_.out ?_
              refine pZ 3 70 (bm 10 15) HT_.out ?_
              refine pZ 4 71 (bm 10 31) HT_.out ?_
              refine tZ 5 72 (bm 10 63) HT_.out HW_.out hHeld ?_
              refine oZ 6 (some 73) (bm 10 127) HT_.out (fun K hK => ?_)
              refine goesN Try.func45 #[] ?_
              with_reducible refine (spec_RowsNew.calls  t143 t146 _ A89.out).mono ?_
              rintro e ww4 ⟨vw1, rfl, hoz1, hb⟩
              refine ⟨_, rfl, ?_⟩
              have HOw1 := Aside0.mk (Kd.R_lower (Kd.R_new' (Kd.R_new' (Kd.R_new' (Kd.R_new' (Kd.R_new' (Kd.R_new' hoz1 (Kd.R_lt (rX HO_y1.out))) (Kd.R_lt (rX HO_y2.out))) (Kd.R_lt (rX HO_y3.out))) (Kd.R_lt (rX HO_y4.out))) (Kd.R_lt (rX HO_y5.out))) (Kd.R_lt (rX HOx1.out))) (below_size (hX HB.out)))
              replace HO_y1 := Aside0.mk (Kd.R_elder' (rX HO_y1.out) (Kd.R_base hoz1) hb)
              replace HO_y2 := Aside0.mk (Kd.R_elder' (rX HO_y2.out) (Kd.R_base hoz1) hb)
              replace HO_y3 := Aside0.mk (Kd.R_elder' (rX HO_y3.out) (Kd.R_base hoz1) hb)
              replace HO_y4 := Aside0.mk (Kd.R_elder' (rX HO_y4.out) (Kd.R_base hoz1) hb)
              replace HO_y5 := Aside0.mk (Kd.R_elder' (rX HO_y5.out) (Kd.R_base hoz1) hb)
              replace HOx1 := Aside0.mk (Kd.R_elder' (rX HOx1.out) (Kd.R_base hoz1) hb)
              replace BKz1 := Aside0.mk (blk_below (bX BKz1.out) hb)
              replace BKz2 := Aside0.mk (blk_below (bX BKz2.out) hb)
              replace BKz3 := Aside0.mk (blk_below (bX BKz3.out) hb)
              replace BKz4 := Aside0.mk (blk_below (bX BKz4.out) hb)
              replace BKx1 := Aside0.mk (blk_below (bX BKx1.out) hb)
              replace HB := Aside0.mk (below_step (hX HB.out) hb)
              (try clear hb)
              (try clear hb2)
              (try clear hk)
              (try clear hi)
              (try clear hoz1)
              obtain ⟨Aow1, cow1, eow1⟩ := Kd.R_slice HOw1.out
              (first | subst eow1 | (injection eow1 with f1_ f2_ f3_; have fw1 := f1_.symm; have fw2 := f3_.symm; clear f1_ f2_ f3_; subst fw1; subst fw2))
              refine hK.out _ _ ⟨cK BKx1.out 0, cK BKx1.out 1⟩ (fun hHeld => ?_)
              clear hK K
              refine nZ 73 ?_
              refine pZ 7 74 (bm 10 255) (v := .int .i64 t146) HT_.out ?_ (hy := by refine Or.inl ⟨by rfl, ?_⟩; intro w'; go_simp; kernel_rfl)
              refine pZ 8 75 (bm 10 511) HT_.out ?_
              refine pZ 9 76 (bm 10 1023) HT_.out ?_
              refine done_ (done_of HT_.out (by kernel_rfl)) ?_
              try go_wp2
              go_meet
              case rel => exact ⟨_, ((t140 != t146)), rS, H', ⟨by have := HJy1.out; first | omega | exact Nat.le_refl _⟩, ⟨(rT (h := by exact Kd.R_mono HO_y1.out (fun _ hk => ⟨hk.1.1, ⟨hk.1.2.1, ⟨hk.1.2.2.1, ⟨hk.1.2.2.2.1, hk.1.2.2.2.2⟩⟩⟩⟩)))⟩, ⟨(rT (h := by exact Kd.R_mono HO_y2.out (fun _ hk => ⟨hk.1.1, ⟨hk.1.2.1, ⟨hk.1.2.2.1, ⟨hk.1.2.2.2.1, hk.1.2.2.2.2⟩⟩⟩⟩)))⟩, ⟨(rT (h := by exact Kd.R_mono HO_y3.out (fun _ hk => ⟨hk.1.1, ⟨hk.1.2.1, ⟨hk.1.2.2.1, ⟨hk.1.2.2.2.1, hk.1.2.2.2.2⟩⟩⟩⟩)))⟩, ⟨(rT (h := by exact Kd.R_mono HO_y4.out (fun _ hk => ⟨hk.1.1, ⟨hk.1.2.1, ⟨hk.1.2.2.1, ⟨hk.1.2.2.2.1, hk.1.2.2.2.2⟩⟩⟩⟩)))⟩, ⟨(rT (h := by exact Kd.R_mono HO_y5.out (fun _ hk => ⟨hk.1.1, ⟨hk.1.2.1, ⟨hk.1.2.2.1, ⟨hk.1.2.2.2.1, hk.1.2.2.2.2⟩⟩⟩⟩)))⟩, ⟨(rT (h := by exact Kd.R_mono HOx1.out (fun _ hk => ⟨hk.1.1, ⟨hk.1.2.1, ⟨hk.1.2.2.1, ⟨hk.1.2.2.2.1, hk.1.2.2.2.2⟩⟩⟩⟩)))⟩, ⟨(bX BKz1.out)⟩, ⟨(bX BKz2.out)⟩, ⟨(bX BKz3.out)⟩, ⟨(bX BKz4.out)⟩, ⟨(bX BKx1.out)⟩, ⟨(hX HB.out)⟩⟩
            · replace c88 := Bool.eq_false_iff.mpr c88
              subst c88
              rw [if_neg nft] at H
              have H' := Aside0.mk H
              clear H
              refine oZ 1 (some 68) (bm 10 3) HT_.out (fun K hK => ?_)
              refine goesN Try.func38 #[.agg #[.slice Aox1 t137.length cox1, .int .i64 t140]] ?_
              with_reducible refine (impl_RowsOk.calls kj8 _ _ t137 t140 false _ ?side1 ?side2 A87.out).mono ?_
              (case side1 => repeat (first | exact (Kd.R_reads' HOx1.out).2.2 | (with_reducible refine Kd.C_alloc ?_ _) | (with_reducible refine Kd.C_drewN ?_ _) | (with_reducible refine Kd.C_drew ?_)))
              (case side2 => exact (Kd.R_reads' HOx1.out).2.1)
              rintro e ww3 ⟨rfl, hb⟩
              refine ⟨_, rfl, ?_⟩
              replace HO_y1 := Aside0.mk (Kd.R_below (rX HO_y1.out) hb)
              replace HO_y2 := Aside0.mk (Kd.R_below (rX HO_y2.out) hb)
              replace HO_y3 := Aside0.mk (Kd.R_below (rX HO_y3.out) hb)
              replace HO_y4 := Aside0.mk (Kd.R_below (rX HO_y4.out) hb)
              replace HO_y5 := Aside0.mk (Kd.R_below (rX HO_y5.out) hb)
              replace HOx1 := Aside0.mk (Kd.R_below (rX HOx1.out) hb)
              replace BKz1 := Aside0.mk (blk_below (bX BKz1.out) hb)
              replace BKz2 := Aside0.mk (blk_below (bX BKz2.out) hb)
              replace BKz3 := Aside0.mk (blk_below (bX BKz3.out) hb)
              replace BKz4 := Aside0.mk (blk_below (bX BKz4.out) hb)
              replace BKx1 := Aside0.mk (blk_below (bX BKx1.out) hb)
              replace HB := Aside0.mk (below_step (hX HB.out) hb)
              (try clear hb)
              (try clear hb2)
              (try clear hk)
              (try clear hi)
              refine hK.out _ _ ⟨cK BKx1.out 0, cK BKx1.out 1⟩ (fun hHeld => ?_)
              clear hK K
              refine nZ 68 ?_
              refine pZ 2 69 (bm 10 7) HT_.out ?_
              refine pZ 3 70 (bm 10 15) HT_.out ?_
              refine pU 4 71 (bm 10 31) HT_.out ?_
              refine pU 5 72 (bm 10 63) HT_.out ?_
              refine pU 6 73 (bm 10 127) HT_.out ?_
              refine pU 7 74 (bm 10 255) HT_.out ?_
              refine pU 8 75 (bm 10 511) HT_.out ?_
              refine pZ 9 76 (bm 10 1023) HT_.out ?_
              refine done_ (done_of HT_.out (by kernel_rfl)) ?_
              try go_wp2
              go_meet
              case rel => exact ⟨_, (true), rS, H', ⟨by have := HJy1.out; first | omega | exact Nat.le_refl _⟩, ⟨(rX HO_y1.out)⟩, ⟨(rX HO_y2.out)⟩, ⟨(rX HO_y3.out)⟩, ⟨(rX HO_y4.out)⟩, ⟨(rX HO_y5.out)⟩, ⟨(rX HOx1.out)⟩, ⟨(bX BKz1.out)⟩, ⟨(bX BKz2.out)⟩, ⟨(bX BKz3.out)⟩, ⟨(bX BKz4.out)⟩, ⟨(bX BKx1.out)⟩, ⟨(hX HB.out)⟩⟩
          case rest =>
            clear HC78
            try clear p2
            try clear c3
            try clear c4
            try clear c7
            try clear c8
            try clear c35
            try clear c36
            try clear c37
            try clear c38
            try clear c39
            try clear c40
            try clear c41
            try clear c44
            try clear c45
            try clear c76
            try clear c82
            try clear c83
            try clear c84
            try clear c85
            try clear c88
            try clear hczx1
            try clear hczx2
            try clear hfzx1
            try clear hfzx2
            try clear p2
            obtain ⟨kq, x76_77, rfl, HA, HJw1, HO_y1, HO_y2, HO_y3, HO_y4, HO_y5, HO_w1, BKz1, BKz2, BKz3, BKz4, BKx1, HB⟩ := hcut
            cases kq with
            | zero => exact absurd HA.out (by simp [laws_FnRows.j1])
            | succ kj77 =>
              have H := HA.out
              clear HA
              simp only [laws_FnRows.j1] at H
              by_cases c98 : x76_77 = true
              · subst c98
                rw [if_pos rfl] at H
                obtain rfl := Option.some.inj H
                go_wp2
                go_ret
                exact ⟨rE, (hX HB.out)⟩
              · replace c98 := Bool.eq_false_iff.mpr c98
                subst c98
                rw [if_neg nft] at H
                replace H := bE H; obtain ⟨t147, A99, H⟩ := H
                by_cases c100 : t147 = true
                · subst c100
                  rw [if_pos rfl] at H
                  replace H := bE H; obtain ⟨⟨t148, t151⟩, A101, H⟩ := H
                  try dsimp only at H
                  have H' := Aside0.mk H
                  clear H
                  have hnbv1 := NBz1.out
                  have hncv1 := NBz2.out
                  have hnbv2 := NBz3.out
                  have hncv2 := NBz4.out
                  have hnbv3 := NBz7.out
                  have hncv3 := NBz8.out
                  have hnbv4 := NBx1.out
                  have hncv4 := NBx2.out
                  obtain ⟨hczv1, hczv2, hfzv1, hfzv2⟩ := cZ2 BKz1.out
                  go_wp2_with (first | (refine goesM 38 78 Try.func38 #[.agg #[.slice Aoz1 t102.length coz1, .int .i64 t105]] ?_; refine (impl_RowsOk.calls kj77 _ _ t102 t105 true _ (cX (Kd.R_reads' HO_y2.out).2.2) ((Kd.R_reads' HO_y2.out).2.1) A99.out).mono ?_; rintro e wv1 ⟨rfl, hb⟩; refine ⟨_, rfl, ?_⟩; replace HO_y1 := Aside0.mk (Kd.R_below (rX HO_y1.out) hb); replace HO_y2 := Aside0.mk (Kd.R_below (rX HO_y2.out) hb); replace HO_y3 := Aside0.mk (Kd.R_below (rX HO_y3.out) hb); replace HO_y4 := Aside0.mk (Kd.R_below (rX HO_y4.out) hb); replace HO_y5 := Aside0.mk (Kd.R_below (rX HO_y5.out) hb); replace HO_w1 := Aside0.mk (Kd.R_below (rX HO_w1.out) hb); replace BKz1 := Aside0.mk (blk_below (bX BKz1.out) hb); replace BKz2 := Aside0.mk (blk_below (bX BKz2.out) hb); replace BKz3 := Aside0.mk (blk_below (bX BKz3.out) hb); replace BKz4 := Aside0.mk (blk_below (bX BKz4.out) hb); replace BKx1 := Aside0.mk (blk_below (bX BKx1.out) hb); replace HB := Aside0.mk (below_step (hX HB.out) hb); clear hb; obtain ⟨Aov1, cov1, eov1⟩ := Kd.R_slice HO_y1.out; subst eov1) | (refine goesM 15 84 Try.func15 #[.slice Aov1 t107.length cov1] ?_; refine (impl_RowsIn.calls _ _ t107 t148 t151 _ (cX (Kd.R_reads' HO_y1.out).2.2) ((Kd.R_reads' HO_y1.out).2.1) A101.out).mono ?_; rintro e wv2 ⟨vv1, rfl, hoz1, hb⟩; refine ⟨_, rfl, ?_⟩; have HOv1 := Aside0.mk (Kd.R_lower (Kd.R_new' (Kd.R_new' (Kd.R_new' (Kd.R_new' (Kd.R_new' (Kd.R_new' hoz1 (Kd.R_lt (rX HO_y1.out))) (Kd.R_lt (rX HO_y2.out))) (Kd.R_lt (rX HO_y3.out))) (Kd.R_lt (rX HO_y4.out))) (Kd.R_lt (rX HO_y5.out))) (Kd.R_lt (rX HO_w1.out))) (below_size (hX HB.out))); replace HO_y1 := Aside0.mk (Kd.R_elder' (rX HO_y1.out) (Kd.R_base hoz1) hb); replace HO_y2 := Aside0.mk (Kd.R_elder' (rX HO_y2.out) (Kd.R_base hoz1) hb); replace HO_y3 := Aside0.mk (Kd.R_elder' (rX HO_y3.out) (Kd.R_base hoz1) hb); replace HO_y4 := Aside0.mk (Kd.R_elder' (rX HO_y4.out) (Kd.R_base hoz1) hb); replace HO_y5 := Aside0.mk (Kd.R_elder' (rX HO_y5.out) (Kd.R_base hoz1) hb); replace HO_w1 := Aside0.mk (Kd.R_elder' (rX HO_w1.out) (Kd.R_base hoz1) hb); replace BKz1 := Aside0.mk (blk_below (bX BKz1.out) hb); replace BKz2 := Aside0.mk (blk_below (bX BKz2.out) hb); replace BKz3 := Aside0.mk (blk_below (bX BKz3.out) hb); replace BKz4 := Aside0.mk (blk_below (bX BKz4.out) hb); replace BKx1 := Aside0.mk (blk_below (bX BKx1.out) hb); replace HB := Aside0.mk (below_step (hX HB.out) hb); clear hb hoz1) | (refine boxE 11 #[.slice none 0 0, .int .i64 0] 24 ?_; intro gbv1 hg wv3 hbox hb; have BKv1 := Aside0.mk (hbox); have GWv1 := Aside0.mk (gX' hg (hX HB.out)); have GEv1 := Aside0.mk (gX' hg (hX HB.out)); have NBv1 := Aside0.mk (gL hg (bX BKz1.out)); have NBv2 := Aside0.mk (gG hg (bX BKz1.out)); have NBv3 := Aside0.mk (gL hg (bX BKz2.out)); have NBv4 := Aside0.mk (gG hg (bX BKz2.out)); have NBv5 := Aside0.mk (gL hg (bX BKz3.out)); have NBv6 := Aside0.mk (gG hg (bX BKz3.out)); have NBv7 := Aside0.mk (gL hg (bX BKz4.out)); have NBv8 := Aside0.mk (gG hg (bX BKz4.out)); have NBv9 := Aside0.mk (gL hg (bX BKx1.out)); have NBv10 := Aside0.mk (gG hg (bX BKx1.out)); replace HO_y1 := Aside0.mk (Kd.R_below (rX HO_y1.out) hb); replace HO_y2 := Aside0.mk (Kd.R_below (rX HO_y2.out) hb); replace HO_y3 := Aside0.mk (Kd.R_below (rX HO_y3.out) hb); replace HO_y4 := Aside0.mk (Kd.R_below (rX HO_y4.out) hb); replace HO_y5 := Aside0.mk (Kd.R_below (rX HO_y5.out) hb); replace HO_w1 := Aside0.mk (Kd.R_below (rX HO_w1.out) hb); replace HOv1 := Aside0.mk (Kd.R_below (rX HOv1.out) hb); replace BKz1 := Aside0.mk (blk_below (bX BKz1.out) hb); replace BKz2 := Aside0.mk (blk_below (bX BKz2.out) hb); replace BKz3 := Aside0.mk (blk_below (bX BKz3.out) hb); replace BKz4 := Aside0.mk (blk_below (bX BKz4.out) hb); replace BKx1 := Aside0.mk (blk_below (bX BKx1.out) hb); replace HB := Aside0.mk (below_step (hX HB.out) hb); clear hb hbox hg; obtain ⟨Aov2, cov2, eov2⟩ := Kd.R_slice HOv1.out; subst eov2; have hnbv5 := NBv2.out; have hncv5 := NBv1.out; have hnbv6 := NBv4.out; have hncv6 := NBv3.out; have hnbv7 := NBv6.out; have hncv7 := NBv5.out; have hnbv8 := NBv8.out; have hncv8 := NBv7.out; have hnbv9 := NBv10.out; have hncv9 := NBv9.out; obtain ⟨hczv3, hczv4, hfzv3, hfzv4⟩ := cZ2 BKv1.out))
                  go_loopg [12, 13] kj77 (fun kq v12 v13 w' => ∃ (x12_3 : Int) (x13_3 : Int), v12 = .int .i64 x12_3 ∧ v13 = .int .i64 x13_3 ∧ Aside0 (laws_FnRows.l0 kq t107 x12_3 x13_3 t102 t105 t148 t151 = some r) ∧ Aside0 (kq ≤ kj77) ∧ Aside0 (Kd.R (Kd.int .i64) 3 w' w.heap.size (fun k_ => some k_ ≠ ((.slice Aoz1 t102.length coz1) : Value).ownBlock ∧ some k_ ≠ ((.slice Aoz2 t110.length coz2) : Value).ownBlock ∧ some k_ ≠ ((.slice Aoz3 t115.length coz3) : Value).ownBlock ∧ some k_ ≠ ((.slice Aoz4 t121.length coz4) : Value).ownBlock ∧ some k_ ≠ ((.slice Aox1 t137.length cox1) : Value).ownBlock ∧ some k_ ≠ ((.slice Aov2 t148.length cov2) : Value).ownBlock) (.slice Aov1 t107.length cov1) t107) ∧ Aside0 (Kd.R (Kd.int .i64) 3 w' w.heap.size (fun k_ => some k_ ≠ ((.slice Aov1 t107.length cov1) : Value).ownBlock ∧ some k_ ≠ ((.slice Aoz2 t110.length coz2) : Value).ownBlock ∧ some k_ ≠ ((.slice Aoz3 t115.length coz3) : Value).ownBlock ∧ some k_ ≠ ((.slice Aoz4 t121.length coz4) : Value).ownBlock ∧ some k_ ≠ ((.slice Aox1 t137.length cox1) : Value).ownBlock ∧ some k_ ≠ ((.slice Aov2 t148.length cov2) : Value).ownBlock) (.slice Aoz1 t102.length coz1) t102) ∧ Aside0 (Kd.R (Kd.int .i64) 3 w' w.heap.size (fun k_ => some k_ ≠ ((.slice Aov1 t107.length cov1) : Value).ownBlock ∧ some k_ ≠ ((.slice Aoz1 t102.length coz1) : Value).ownBlock ∧ some k_ ≠ ((.slice Aoz3 t115.length coz3) : Value).ownBlock ∧ some k_ ≠ ((.slice Aoz4 t121.length coz4) : Value).ownBlock ∧ some k_ ≠ ((.slice Aox1 t137.length cox1) : Value).ownBlock ∧ some k_ ≠ ((.slice Aov2 t148.length cov2) : Value).ownBlock) (.slice Aoz2 t110.length coz2) t110) ∧ Aside0 (Kd.R (Kd.int .i64) 3 w' w.heap.size (fun k_ => some k_ ≠ ((.slice Aov1 t107.length cov1) : Value).ownBlock ∧ some k_ ≠ ((.slice Aoz1 t102.length coz1) : Value).ownBlock ∧ some k_ ≠ ((.slice Aoz2 t110.length coz2) : Value).ownBlock ∧ some k_ ≠ ((.slice Aoz4 t121.length coz4) : Value).ownBlock ∧ some k_ ≠ ((.slice Aox1 t137.length cox1) : Value).ownBlock ∧ some k_ ≠ ((.slice Aov2 t148.length cov2) : Value).ownBlock) (.slice Aoz3 t115.length coz3) t115) ∧ Aside0 (Kd.R (Kd.int .i64) 3 w' w.heap.size (fun k_ => some k_ ≠ ((.slice Aov1 t107.length cov1) : Value).ownBlock ∧ some k_ ≠ ((.slice Aoz1 t102.length coz1) : Value).ownBlock ∧ some k_ ≠ ((.slice Aoz2 t110.length coz2) : Value).ownBlock ∧ some k_ ≠ ((.slice Aoz3 t115.length coz3) : Value).ownBlock ∧ some k_ ≠ ((.slice Aox1 t137.length cox1) : Value).ownBlock ∧ some k_ ≠ ((.slice Aov2 t148.length cov2) : Value).ownBlock) (.slice Aoz4 t121.length coz4) t121) ∧ Aside0 (Kd.R (Kd.int .i64) 3 w' w.heap.size (fun k_ => some k_ ≠ ((.slice Aov1 t107.length cov1) : Value).ownBlock ∧ some k_ ≠ ((.slice Aoz1 t102.length coz1) : Value).ownBlock ∧ some k_ ≠ ((.slice Aoz2 t110.length coz2) : Value).ownBlock ∧ some k_ ≠ ((.slice Aoz3 t115.length coz3) : Value).ownBlock ∧ some k_ ≠ ((.slice Aoz4 t121.length coz4) : Value).ownBlock ∧ some k_ ≠ ((.slice Aov2 t148.length cov2) : Value).ownBlock) (.slice Aox1 t137.length cox1) t137) ∧ Aside0 (Kd.R (Kd.int .i64) 3 w' w.heap.size (fun k_ => some k_ ≠ ((.slice Aov1 t107.length cov1) : Value).ownBlock ∧ some k_ ≠ ((.slice Aoz1 t102.length coz1) : Value).ownBlock ∧ some k_ ≠ ((.slice Aoz2 t110.length coz2) : Value).ownBlock ∧ some k_ ≠ ((.slice Aoz3 t115.length coz3) : Value).ownBlock ∧ some k_ ≠ ((.slice Aoz4 t121.length coz4) : Value).ownBlock ∧ some k_ ≠ ((.slice Aox1 t137.length cox1) : Value).ownBlock) (.slice Aov2 t148.length cov2) t148) ∧ Aside0 (w'.heap[gbz1]? = some (.cells #[(.slice Aoz1 t102.length coz1), .int .i64 t105] 24 (0, 0))) ∧ Aside0 (w'.heap[gbz2]? = some (.cells #[(.slice Aoz2 t110.length coz2), .int .i64 t113] 24 (0, 0))) ∧ Aside0 (w'.heap[gbz3]? = some (.cells #[(.slice Aoz3 t115.length coz3), .int .i64 t118] 24 (0, 0))) ∧ Aside0 (w'.heap[gbz4]? = some (.cells #[(.slice Aoz4 t121.length coz4), .int .i64 t124] 24 (0, 0))) ∧ Aside0 (w'.heap[gbx1]? = some (.cells #[(.slice Aox1 t137.length cox1), .int .i64 t140] 24 (0, 0))) ∧ Aside0 (w'.heap[gbv1]? = some (.cells #[(.slice Aov2 t148.length cov2), .int .i64 t151] 24 (0, 0))) ∧ Aside0 (Below w.heap.size w w'))
                  case atStart => exact ⟨(0), (0), rS, rS, H', ⟨Nat.le_refl _⟩, ⟨(rT (h := by exact Kd.R_mono (Kd.R_far (p := ⟨gbv1, 1, none⟩) (Kd.R_far (p := ⟨gbv1, 0, none⟩) (Kd.R_types HO_y1.out BKv1.out (by decide)) (fun _ hk => hk.2) (.slice Aov2 t148.length cov2)) (fun _ hk => hk.2) (.int .i64 t151)) (fun _ hk => ⟨hk.1.1.1, ⟨hk.1.1.2.1, ⟨hk.1.1.2.2.1, ⟨hk.1.1.2.2.2.1, ⟨hk.1.1.2.2.2.2, hk.1.2⟩⟩⟩⟩⟩)))⟩, ⟨(rT (h := by exact Kd.R_mono (Kd.R_far (p := ⟨gbv1, 1, none⟩) (Kd.R_far (p := ⟨gbv1, 0, none⟩) (Kd.R_types HO_y2.out BKv1.out (by decide)) (fun _ hk => hk.2) (.slice Aov2 t148.length cov2)) (fun _ hk => hk.2) (.int .i64 t151)) (fun _ hk => ⟨hk.1.1.1, ⟨hk.1.1.2.1, ⟨hk.1.1.2.2.1, ⟨hk.1.1.2.2.2.1, ⟨hk.1.1.2.2.2.2, hk.1.2⟩⟩⟩⟩⟩)))⟩, ⟨(rT (h := by exact Kd.R_mono (Kd.R_far (p := ⟨gbv1, 1, none⟩) (Kd.R_far (p := ⟨gbv1, 0, none⟩) (Kd.R_types HO_y3.out BKv1.out (by decide)) (fun _ hk => hk.2) (.slice Aov2 t148.length cov2)) (fun _ hk => hk.2) (.int .i64 t151)) (fun _ hk => ⟨hk.1.1.1, ⟨hk.1.1.2.1, ⟨hk.1.1.2.2.1, ⟨hk.1.1.2.2.2.1, ⟨hk.1.1.2.2.2.2, hk.1.2⟩⟩⟩⟩⟩)))⟩, ⟨(rT (h := by exact Kd.R_mono (Kd.R_far (p := ⟨gbv1, 1, none⟩) (Kd.R_far (p := ⟨gbv1, 0, none⟩) (Kd.R_types HO_y4.out BKv1.out (by decide)) (fun _ hk => hk.2) (.slice Aov2 t148.length cov2)) (fun _ hk => hk.2) (.int .i64 t151)) (fun _ hk => ⟨hk.1.1.1, ⟨hk.1.1.2.1, ⟨hk.1.1.2.2.1, ⟨hk.1.1.2.2.2.1, ⟨hk.1.1.2.2.2.2, hk.1.2⟩⟩⟩⟩⟩)))⟩, ⟨(rT (h := by exact Kd.R_mono (Kd.R_far (p := ⟨gbv1, 1, none⟩) (Kd.R_far (p := ⟨gbv1, 0, none⟩) (Kd.R_types HO_y5.out BKv1.out (by decide)) (fun _ hk => hk.2) (.slice Aov2 t148.length cov2)) (fun _ hk => hk.2) (.int .i64 t151)) (fun _ hk => ⟨hk.1.1.1, ⟨hk.1.1.2.1, ⟨hk.1.1.2.2.1, ⟨hk.1.1.2.2.2.1, ⟨hk.1.1.2.2.2.2, hk.1.2⟩⟩⟩⟩⟩)))⟩, ⟨(rT (h := by exact Kd.R_mono (Kd.R_far (p := ⟨gbv1, 1, none⟩) (Kd.R_far (p := ⟨gbv1, 0, none⟩) (Kd.R_types HO_w1.out BKv1.out (by decide)) (fun _ hk => hk.2) (.slice Aov2 t148.length cov2)) (fun _ hk => hk.2) (.int .i64 t151)) (fun _ hk => ⟨hk.1.1.1, ⟨hk.1.1.2.1, ⟨hk.1.1.2.2.1, ⟨hk.1.1.2.2.2.1, ⟨hk.1.1.2.2.2.2, hk.1.2⟩⟩⟩⟩⟩)))⟩, ⟨(rT (h := by exact Kd.R_mono (Kd.R_far (p := ⟨gbv1, 1, none⟩) (Kd.R_far (p := ⟨gbv1, 0, none⟩) (Kd.R_types HOv1.out BKv1.out (by decide)) (fun _ hk => hk.2) (.slice Aov2 t148.length cov2)) (fun _ hk => hk.2) (.int .i64 t151)) (fun _ hk => ⟨hk.1.1.1.1.1.1.2, ⟨hk.1.1.1.1.1.2, ⟨hk.1.1.1.1.2, ⟨hk.1.1.1.2, ⟨hk.1.1.2, hk.1.2⟩⟩⟩⟩⟩)))⟩, ⟨(bF BKz1.out)⟩, ⟨(bF BKz2.out)⟩, ⟨(bF BKz3.out)⟩, ⟨(bF BKz4.out)⟩, ⟨(bF BKx1.out)⟩, ⟨(bP BKv1.out)⟩, ⟨(hX HB.out)⟩⟩
                  case round =>
                    clear H'
                    try clear c1
                    try clear p2
                    try clear c3
                    try clear c4
                    try clear c7
                    try clear c8
                    try clear c9
                    try clear c10
                    try clear c11
                    try clear c15
                    try clear c35
                    try clear c36
                    try clear c37
                    try clear c38
                    try clear c39
                    try clear c40
                    try clear c41
                    try clear c44
                    try clear c45
                    try clear c76
                    try clear c82
                    try clear c83
                    try clear c84
                    try clear c85
                    try clear c88
                    try clear c98
                    try clear c100
                    try clear c102
                    try clear c103
                    try clear c104
                    try clear c105
                    try clear c112
                    try clear c113
                    try clear c114
                    try clear c115
                    try clear c116
                    try clear hczv1
                    try clear hczv2
                    try clear hczv3
                    try clear hczv4
                    try clear hczx1
                    try clear hczx2
                    try clear hfzv1
                    try clear hfzv2
                    try clear hfzv3
                    try clear hfzv4
                    try clear hfzx1
                    try clear hfzx2
                    try clear p2
                    obtain ⟨x12_3, x13_3, rfl, rfl, HA, HKu1, HO_y1, HO_y2, HO_y3, HO_y4, HO_y5, HO_w1, HO_u1, BKz1, BKz2, BKz3, BKz4, BKx1, BKv1, HB⟩ := hrel
                    cases gk with
                    | zero => exact absurd HA.out (by simp [laws_FnRows.l0])
                    | succ k3 =>
                      have H := HA.out
                      clear HA
                      simp only [laws_FnRows.l0] at H
                      by_cases c118 : x13_3 < 3
                      · rw [if_pos c118] at H
                        have c118b0 := decide_eq_true c118
                        clear c118
                        replace H := bE H; obtain ⟨t153, A119, H⟩ := H
                        replace H := ifP H; obtain ⟨c120, H⟩ := H
                        have c120b0 := decide_eq_true c120
                        clear c120
                        replace H := ifP H; obtain ⟨c121, H⟩ := H
                        have c121b0 := decide_eq_true c121
                        clear c121
                        have H' := Aside0.mk H
                        clear H
                        go_wp2_with (first | (refine goesM 46 92 Try.func46 #[.int .i64 x13_3] ?_; refine (impl_CountAt.calls x13_3 t153 _ A119.out).mono ?_; rintro e w' ⟨rfl, ⟨nd, rfl⟩⟩; refine ⟨_, rfl, ?_⟩; have pt1 : 0 ≤ (t153 : Int) := of_decide_eq_true (by first | (with_reducible assumption) | assumption); have qt1 : t153 < (t107.length : Int) := of_decide_eq_true (by first | (with_reducible assumption) | assumption); obtain ⟨adt1, et1, hxt1⟩ := Kd.at_int (Kd.R_reads' HO_y1.out).2.2 t153 pt1 qt1; cases et1; replace pt1 := eq_true pt1; replace qt1 := eq_true qt1))
                        go_roundg k3
                        case measure => have := HJy1.out; have := HJw1.out; have := HKu1.out; omega
                        case rel => exact ⟨(wrap64 (x12_3 + (rd t107 t153))), (wrap64 (x13_3 + 1)), rS, rS, H', ⟨by have := HJy1.out; have := HJw1.out; have := HKu1.out; omega⟩, ⟨(rX HO_y1.out)⟩, ⟨(rX HO_y2.out)⟩, ⟨(rX HO_y3.out)⟩, ⟨(rX HO_y4.out)⟩, ⟨(rX HO_y5.out)⟩, ⟨(rX HO_w1.out)⟩, ⟨(rX HO_u1.out)⟩, ⟨(bX BKz1.out)⟩, ⟨(bX BKz2.out)⟩, ⟨(bX BKz3.out)⟩, ⟨(bX BKz4.out)⟩, ⟨(bX BKx1.out)⟩, ⟨(bX BKv1.out)⟩, ⟨(hX HB.out)⟩⟩
                      · rw [if_neg c118] at H
                        have c118b0 := decide_eq_false c118
                        clear c118
                        have H' := Aside0.mk H
                        clear H
                        go_wp2
                        go_loopg [14, 15] k3 (fun kq v14 v15 w' => ∃ (x14_4 : Int) (x15_4 : Int), v14 = .int .i64 x14_4 ∧ v15 = .int .i64 x15_4 ∧ Aside0 (laws_FnRows.l1 kq t107 x12_3 x14_4 x15_4 t102 t105 t148 t151 = some r) ∧ Aside0 (kq ≤ k3) ∧ Aside0 (Kd.R (Kd.int .i64) 3 w' w.heap.size (fun k_ => some k_ ≠ ((.slice Aoz1 t102.length coz1) : Value).ownBlock ∧ some k_ ≠ ((.slice Aoz2 t110.length coz2) : Value).ownBlock ∧ some k_ ≠ ((.slice Aoz3 t115.length coz3) : Value).ownBlock ∧ some k_ ≠ ((.slice Aoz4 t121.length coz4) : Value).ownBlock ∧ some k_ ≠ ((.slice Aox1 t137.length cox1) : Value).ownBlock ∧ some k_ ≠ ((.slice Aov2 t148.length cov2) : Value).ownBlock) (.slice Aov1 t107.length cov1) t107) ∧ Aside0 (Kd.R (Kd.int .i64) 3 w' w.heap.size (fun k_ => some k_ ≠ ((.slice Aov1 t107.length cov1) : Value).ownBlock ∧ some k_ ≠ ((.slice Aoz2 t110.length coz2) : Value).ownBlock ∧ some k_ ≠ ((.slice Aoz3 t115.length coz3) : Value).ownBlock ∧ some k_ ≠ ((.slice Aoz4 t121.length coz4) : Value).ownBlock ∧ some k_ ≠ ((.slice Aox1 t137.length cox1) : Value).ownBlock ∧ some k_ ≠ ((.slice Aov2 t148.length cov2) : Value).ownBlock) (.slice Aoz1 t102.length coz1) t102) ∧ Aside0 (Kd.R (Kd.int .i64) 3 w' w.heap.size (fun k_ => some k_ ≠ ((.slice Aov1 t107.length cov1) : Value).ownBlock ∧ some k_ ≠ ((.slice Aoz1 t102.length coz1) : Value).ownBlock ∧ some k_ ≠ ((.slice Aoz3 t115.length coz3) : Value).ownBlock ∧ some k_ ≠ ((.slice Aoz4 t121.length coz4) : Value).ownBlock ∧ some k_ ≠ ((.slice Aox1 t137.length cox1) : Value).ownBlock ∧ some k_ ≠ ((.slice Aov2 t148.length cov2) : Value).ownBlock) (.slice Aoz2 t110.length coz2) t110) ∧ Aside0 (Kd.R (Kd.int .i64) 3 w' w.heap.size (fun k_ => some k_ ≠ ((.slice Aov1 t107.length cov1) : Value).ownBlock ∧ some k_ ≠ ((.slice Aoz1 t102.length coz1) : Value).ownBlock ∧ some k_ ≠ ((.slice Aoz2 t110.length coz2) : Value).ownBlock ∧ some k_ ≠ ((.slice Aoz4 t121.length coz4) : Value).ownBlock ∧ some k_ ≠ ((.slice Aox1 t137.length cox1) : Value).ownBlock ∧ some k_ ≠ ((.slice Aov2 t148.length cov2) : Value).ownBlock) (.slice Aoz3 t115.length coz3) t115) ∧ Aside0 (Kd.R (Kd.int .i64) 3 w' w.heap.size (fun k_ => some k_ ≠ ((.slice Aov1 t107.length cov1) : Value).ownBlock ∧ some k_ ≠ ((.slice Aoz1 t102.length coz1) : Value).ownBlock ∧ some k_ ≠ ((.slice Aoz2 t110.length coz2) : Value).ownBlock ∧ some k_ ≠ ((.slice Aoz3 t115.length coz3) : Value).ownBlock ∧ some k_ ≠ ((.slice Aox1 t137.length cox1) : Value).ownBlock ∧ some k_ ≠ ((.slice Aov2 t148.length cov2) : Value).ownBlock) (.slice Aoz4 t121.length coz4) t121) ∧ Aside0 (Kd.R (Kd.int .i64) 3 w' w.heap.size (fun k_ => some k_ ≠ ((.slice Aov1 t107.length cov1) : Value).ownBlock ∧ some k_ ≠ ((.slice Aoz1 t102.length coz1) : Value).ownBlock ∧ some k_ ≠ ((.slice Aoz2 t110.length coz2) : Value).ownBlock ∧ some k_ ≠ ((.slice Aoz3 t115.length coz3) : Value).ownBlock ∧ some k_ ≠ ((.slice Aoz4 t121.length coz4) : Value).ownBlock ∧ some k_ ≠ ((.slice Aov2 t148.length cov2) : Value).ownBlock) (.slice Aox1 t137.length cox1) t137) ∧ Aside0 (Kd.R (Kd.int .i64) 3 w' w.heap.size (fun k_ => some k_ ≠ ((.slice Aov1 t107.length cov1) : Value).ownBlock ∧ some k_ ≠ ((.slice Aoz1 t102.length coz1) : Value).ownBlock ∧ some k_ ≠ ((.slice Aoz2 t110.length coz2) : Value).ownBlock ∧ some k_ ≠ ((.slice Aoz3 t115.length coz3) : Value).ownBlock ∧ some k_ ≠ ((.slice Aoz4 t121.length coz4) : Value).ownBlock ∧ some k_ ≠ ((.slice Aox1 t137.length cox1) : Value).ownBlock) (.slice Aov2 t148.length cov2) t148) ∧ Aside0 (w'.heap[gbz1]? = some (.cells #[(.slice Aoz1 t102.length coz1), .int .i64 t105] 24 (0, 0))) ∧ Aside0 (w'.heap[gbz2]? = some (.cells #[(.slice Aoz2 t110.length coz2), .int .i64 t113] 24 (0, 0))) ∧ Aside0 (w'.heap[gbz3]? = some (.cells #[(.slice Aoz3 t115.length coz3), .int .i64 t118] 24 (0, 0))) ∧ Aside0 (w'.heap[gbz4]? = some (.cells #[(.slice Aoz4 t121.length coz4), .int .i64 t124] 24 (0, 0))) ∧ Aside0 (w'.heap[gbx1]? = some (.cells #[(.slice Aox1 t137.length cox1), .int .i64 t140] 24 (0, 0))) ∧ Aside0 (w'.heap[gbv1]? = some (.cells #[(.slice Aov2 t148.length cov2), .int .i64 t151] 24 (0, 0))) ∧ Aside0 (Below w.heap.size w w'))
                        case atStart => exact ⟨(0), (0), rS, rS, H', ⟨Nat.le_refl _⟩, ⟨(rX HO_y1.out)⟩, ⟨(rX HO_y2.out)⟩, ⟨(rX HO_y3.out)⟩, ⟨(rX HO_y4.out)⟩, ⟨(rX HO_y5.out)⟩, ⟨(rX HO_w1.out)⟩, ⟨(rX HO_u1.out)⟩, ⟨(bX BKz1.out)⟩, ⟨(bX BKz2.out)⟩, ⟨(bX BKz3.out)⟩, ⟨(bX BKz4.out)⟩, ⟨(bX BKx1.out)⟩, ⟨(bX BKv1.out)⟩, ⟨(hX HB.out)⟩⟩
                        case round =>
                          clear H'
                          try clear c1
                          try clear p1
                          try clear q1
                          try clear hx1
                          try clear p2
                          try clear c3
                          try clear c4
                          try clear p6
                          try clear c7
                          try clear c8
                          try clear c9
                          try clear c10
                          try clear c11
                          try clear c12
                          try clear c15
                          try clear p15
                          try clear q15
                          try clear hx15
                          try clear c35
                          try clear c36
                          try clear c37
                          try clear c38
                          try clear c39
                          try clear c40
                          try clear c41
                          try clear c44
                          try clear c45
                          try clear c46
                          try clear p64
                          try clear c76
                          try clear c82
                          try clear c83
                          try clear c84
                          try clear c85
                          try clear c88
                          try clear c98
                          try clear c100
                          try clear c102
                          try clear c103
                          try clear c104
                          try clear c105
                          try clear c112
                          try clear c113
                          try clear c114
                          try clear c115
                          try clear c116
                          try clear c118
                          try clear c118b0
                          try clear c120
                          try clear c120b0
                          try clear c121
                          try clear c121b0
                          try clear hczv1
                          try clear hczv2
                          try clear hczv3
                          try clear hczv4
                          try clear hczx1
                          try clear hczx2
                          try clear hfzv1
                          try clear hfzv2
                          try clear hfzv3
                          try clear hfzv4
                          try clear hfzx1
                          try clear hfzx2
                          try clear hx154_0
                          try clear p154
                          try clear p2
                          try clear q154
                          obtain ⟨x14_4, x15_4, rfl, rfl, HA, HKs1, HO_y1, HO_y2, HO_y3, HO_y4, HO_y5, HO_w1, HO_u1, BKz1, BKz2, BKz3, BKz4, BKx1, BKv1, HB⟩ := hrel
                          cases gk with
                          | zero => exact absurd HA.out (by simp [laws_FnRows.l1])
                          | succ k4 =>
                            have H := HA.out
                            clear HA
                            simp only [laws_FnRows.l1] at H
                            by_cases c122 : x15_4 < 4
                            · rw [if_pos c122] at H
                              have c122b0 := decide_eq_true c122
                              clear c122
                              replace H := ifP H; obtain ⟨c123, H⟩ := H
                              have c123b0 := decide_eq_true c123
                              clear c123
                              replace H := ifP H; obtain ⟨c124, H⟩ := H
                              have c124b0 := decide_eq_true c124
                              clear c124
                              by_cases c125 : (rd t102 x15_4) = 0
                              · rw [if_pos c125] at H
                                obtain ⟨c125b0, c125b1⟩ := eqT c125
                                clear c125
                                have H' := Aside0.mk H
                                clear H
                                have hnbr1 := NBz1.out
                                have hncr1 := NBz2.out
                                have hnbr2 := NBz3.out
                                have hncr2 := NBz4.out
                                have hnbr3 := NBz7.out
                                have hncr3 := NBz8.out
                                have hnbr4 := NBx1.out
                                have hncr4 := NBx2.out
                                have hnbr5 := NBv1.out
                                have hncr5 := NBv2.out
                                obtain ⟨hczr1, hczr2, hfzr1, hfzr2⟩ := cZ2 BKz1.out
                                have pr1 : 0 ≤ (x15_4 : Int) := of_decide_eq_true (by first | (with_reducible assumption) | assumption)
                                have qr1 : x15_4 < (t102.length : Int) := of_decide_eq_true (by first | (with_reducible assumption) | assumption)
                                obtain ⟨adr1, er1, hxr1⟩ := Kd.at_int (Kd.R_reads' HO_y2.out).2.2 x15_4 pr1 qr1
                                cases er1
                                replace pr1 := eq_true pr1
                                replace qr1 := eq_true qr1
                                go_wp2
                                go_roundg k4
                                case measure => have := HJy1.out; have := HJw1.out; have := HKu1.out; have := HKs1.out; omega
                                case rel => exact ⟨(x14_4), (wrap64 (x15_4 + 1)), rS, rS, H', ⟨by have := HJy1.out; have := HJw1.out; have := HKu1.out; have := HKs1.out; omega⟩, ⟨(rX HO_y1.out)⟩, ⟨(rX HO_y2.out)⟩, ⟨(rX HO_y3.out)⟩, ⟨(rX HO_y4.out)⟩, ⟨(rX HO_y5.out)⟩, ⟨(rX HO_w1.out)⟩, ⟨(rX HO_u1.out)⟩, ⟨(bX BKz1.out)⟩, ⟨(bX BKz2.out)⟩, ⟨(bX BKz3.out)⟩, ⟨(bX BKz4.out)⟩, ⟨(bX BKx1.out)⟩, ⟨(bX BKv1.out)⟩, ⟨(hX HB.out)⟩⟩
                              · rw [if_neg c125] at H
                                obtain ⟨c125b0, c125b1⟩ := eqF c125
                                replace H := bE H; obtain ⟨⟨t159, t160⟩, A132, H⟩ := H
                                try dsimp only at H
                                by_cases c133 : t160 = true
                                · subst c133
                                  rw [if_pos rfl] at H
                                  have hnbr1 := NBz1.out
                                  have hncr1 := NBz2.out
                                  have hnbr2 := NBz3.out
                                  have hncr2 := NBz4.out
                                  have hnbr3 := NBz7.out
                                  have hncr3 := NBz8.out
                                  have hnbr4 := NBx1.out
                                  have hncr4 := NBx2.out
                                  have hnbr5 := NBv1.out
                                  have hncr5 := NBv2.out
                                  obtain ⟨hczr1, hczr2, hfzr1, hfzr2⟩ := cZ2 BKz1.out
                                  have pr1 : 0 ≤ (x15_4 : Int) := of_decide_eq_true (by first | (with_reducible assumption) | assumption)
                                  have qr1 : x15_4 < (t102.length : Int) := of_decide_eq_true (by first | (with_reducible assumption) | assumption)
                                  obtain ⟨adr1, er1, hxr1⟩ := Kd.at_int (Kd.R_reads' HO_y2.out).2.2 x15_4 pr1 qr1
                                  cases er1
                                  replace pr1 := eq_true pr1
                                  replace qr1 := eq_true qr1
                                  have pr2 : 0 ≤ (x15_4 : Int) := of_decide_eq_true (by first | (with_reducible assumption) | assumption)
                                  have qr2 : x15_4 < (t102.length : Int) := of_decide_eq_true (by first | (with_reducible assumption) | assumption)
                                  obtain ⟨adr2, er2, hxr2⟩ := Kd.at_int (Kd.R_reads' HO_y2.out).2.2 x15_4 pr2 qr2
                                  obtain rfl : adr1 = adr2 := (by injection er2)
                                  replace pr2 := eq_true pr2
                                  replace qr2 := eq_true qr2
                                  go_wp2_with (first | (refine goesM 27 115 Try.func27 #[.slice Aov1 t107.length cov1, .int .i64 (rd t102 x15_4)] ?_; refine (impl_Find.calls k4 _ _ t107 (rd t102 x15_4) t159 true _ (cX (Kd.R_reads' HO_y1.out).2.2) ((Kd.R_reads' HO_y1.out).2.1) A132.out).mono ?_; rintro e wr1 ⟨rfl, hb⟩; refine ⟨_, rfl, ?_⟩; replace HO_y1 := Aside0.mk (Kd.R_below (rX HO_y1.out) hb); replace HO_y2 := Aside0.mk (Kd.R_below (rX HO_y2.out) hb); replace HO_y3 := Aside0.mk (Kd.R_below (rX HO_y3.out) hb); replace HO_y4 := Aside0.mk (Kd.R_below (rX HO_y4.out) hb); replace HO_y5 := Aside0.mk (Kd.R_below (rX HO_y5.out) hb); replace HO_w1 := Aside0.mk (Kd.R_below (rX HO_w1.out) hb); replace HO_u1 := Aside0.mk (Kd.R_below (rX HO_u1.out) hb); replace BKz1 := Aside0.mk (blk_below (bX BKz1.out) hb); replace BKz2 := Aside0.mk (blk_below (bX BKz2.out) hb); replace BKz3 := Aside0.mk (blk_below (bX BKz3.out) hb); replace BKz4 := Aside0.mk (blk_below (bX BKz4.out) hb); replace BKx1 := Aside0.mk (blk_below (bX BKx1.out) hb); replace BKv1 := Aside0.mk (blk_below (bX BKv1.out) hb); replace HB := Aside0.mk (below_step (hX HB.out) hb); clear hb; refine Stop.out ?_))
                                  refine ⟨?_⟩
                                  by_cases c134 : t159 = x15_4
                                  · rw [if_pos c134] at H
                                    obtain ⟨c134b0, c134b1⟩ := eqT c134
                                    clear c134
                                    have H' := Aside0.mk H
                                    clear H
                                    go_wp2
                                    go_roundg k4
                                    case measure => have := HJy1.out; have := HJw1.out; have := HKu1.out; have := HKs1.out; omega
                                    case rel => exact ⟨(wrap64 (x14_4 + 1)), (wrap64 (x15_4 + 1)), rS, rS, H', ⟨by have := HJy1.out; have := HJw1.out; have := HKu1.out; have := HKs1.out; omega⟩, ⟨(rX HO_y1.out)⟩, ⟨(rX HO_y2.out)⟩, ⟨(rX HO_y3.out)⟩, ⟨(rX HO_y4.out)⟩, ⟨(rX HO_y5.out)⟩, ⟨(rX HO_w1.out)⟩, ⟨(rX HO_u1.out)⟩, ⟨(bX BKz1.out)⟩, ⟨(bX BKz2.out)⟩, ⟨(bX BKz3.out)⟩, ⟨(bX BKz4.out)⟩, ⟨(bX BKx1.out)⟩, ⟨(bX BKv1.out)⟩, ⟨(hX HB.out)⟩⟩
                                  · rw [if_neg c134] at H
                                    obtain ⟨c134b0, c134b1⟩ := eqF c134
                                    obtain rfl := Option.some.inj H
                                    go_wp2
                                    go_ret
                                    exact ⟨rE, (hX HB.out)⟩
                                · replace c133 := Bool.eq_false_iff.mpr c133
                                  subst c133
                                  rw [if_neg nft] at H
                                  obtain rfl := Option.some.inj H
                                  have hnbr1 := NBz1.out
                                  have hncr1 := NBz2.out
                                  have hnbr2 := NBz3.out
                                  have hncr2 := NBz4.out
                                  have hnbr3 := NBz7.out
                                  have hncr3 := NBz8.out
                                  have hnbr4 := NBx1.out
                                  have hncr4 := NBx2.out
                                  have hnbr5 := NBv1.out
                                  have hncr5 := NBv2.out
                                  obtain ⟨hczr1, hczr2, hfzr1, hfzr2⟩ := cZ2 BKz1.out
                                  have pr1 : 0 ≤ (x15_4 : Int) := of_decide_eq_true (by first | (with_reducible assumption) | assumption)
                                  have qr1 : x15_4 < (t102.length : Int) := of_decide_eq_true (by first | (with_reducible assumption) | assumption)
                                  obtain ⟨adr1, er1, hxr1⟩ := Kd.at_int (Kd.R_reads' HO_y2.out).2.2 x15_4 pr1 qr1
                                  cases er1
                                  replace pr1 := eq_true pr1
                                  replace qr1 := eq_true qr1
                                  have pr2 : 0 ≤ (x15_4 : Int) := of_decide_eq_true (by first | (with_reducible assumption) | assumption)
                                  have qr2 : x15_4 < (t102.length : Int) := of_decide_eq_true (by first | (with_reducible assumption) | assumption)
                                  obtain ⟨adr2, er2, hxr2⟩ := Kd.at_int (Kd.R_reads' HO_y2.out).2.2 x15_4 pr2 qr2
                                  obtain rfl : adr1 = adr2 := (by injection er2)
                                  replace pr2 := eq_true pr2
                                  replace qr2 := eq_true qr2
                                  go_wp2_with (first | (refine goesM 27 115 Try.func27 #[.slice Aov1 t107.length cov1, .int .i64 (rd t102 x15_4)] ?_; refine (impl_Find.calls k4 _ _ t107 (rd t102 x15_4) t159 false _ (cX (Kd.R_reads' HO_y1.out).2.2) ((Kd.R_reads' HO_y1.out).2.1) A132.out).mono ?_; rintro e wr1 ⟨rfl, hb⟩; refine ⟨_, rfl, ?_⟩; replace HO_y1 := Aside0.mk (Kd.R_below (rX HO_y1.out) hb); replace HO_y2 := Aside0.mk (Kd.R_below (rX HO_y2.out) hb); replace HO_y3 := Aside0.mk (Kd.R_below (rX HO_y3.out) hb); replace HO_y4 := Aside0.mk (Kd.R_below (rX HO_y4.out) hb); replace HO_y5 := Aside0.mk (Kd.R_below (rX HO_y5.out) hb); replace HO_w1 := Aside0.mk (Kd.R_below (rX HO_w1.out) hb); replace HO_u1 := Aside0.mk (Kd.R_below (rX HO_u1.out) hb); replace BKz1 := Aside0.mk (blk_below (bX BKz1.out) hb); replace BKz2 := Aside0.mk (blk_below (bX BKz2.out) hb); replace BKz3 := Aside0.mk (blk_below (bX BKz3.out) hb); replace BKz4 := Aside0.mk (blk_below (bX BKz4.out) hb); replace BKx1 := Aside0.mk (blk_below (bX BKx1.out) hb); replace BKv1 := Aside0.mk (blk_below (bX BKv1.out) hb); replace HB := Aside0.mk (below_step (hX HB.out) hb); clear hb))
                                  go_ret
                                  exact ⟨rE, (hX HB.out)⟩
                            · rw [if_neg c122] at H
                              have c122b0 := decide_eq_false c122
                              clear c122
                              replace H := bE H; obtain ⟨t155, A156, H⟩ := H
                              by_cases c157 : t155 = true
                              · subst c157
                                rw [if_pos rfl] at H
                                replace H := bE H; obtain ⟨t156, A158, H⟩ := H
                                go_wp2_with (first | (refine goesM 22 126 Try.func22 #[.slice Aov1 t107.length cov1] ?_; refine (impl_Whole.calls k4 _ _ t107 true _ (cX (Kd.R_reads' HO_y1.out).2.2) ((Kd.R_reads' HO_y1.out).2.1) A156.out).mono ?_; rintro e wr1 ⟨rfl, hb⟩; refine ⟨_, rfl, ?_⟩; replace HO_y1 := Aside0.mk (Kd.R_below (rX HO_y1.out) hb); replace HO_y2 := Aside0.mk (Kd.R_below (rX HO_y2.out) hb); replace HO_y3 := Aside0.mk (Kd.R_below (rX HO_y3.out) hb); replace HO_y4 := Aside0.mk (Kd.R_below (rX HO_y4.out) hb); replace HO_y5 := Aside0.mk (Kd.R_below (rX HO_y5.out) hb); replace HO_w1 := Aside0.mk (Kd.R_below (rX HO_w1.out) hb); replace HO_u1 := Aside0.mk (Kd.R_below (rX HO_u1.out) hb); replace BKz1 := Aside0.mk (blk_below (bX BKz1.out) hb); replace BKz2 := Aside0.mk (blk_below (bX BKz2.out) hb); replace BKz3 := Aside0.mk (blk_below (bX BKz3.out) hb); replace BKz4 := Aside0.mk (blk_below (bX BKz4.out) hb); replace BKx1 := Aside0.mk (blk_below (bX BKx1.out) hb); replace BKv1 := Aside0.mk (blk_below (bX BKv1.out) hb); replace HB := Aside0.mk (below_step (hX HB.out) hb); clear hb; have hnbr1 := NBv2.out; have hncr1 := NBv1.out; have hnbr2 := NBv4.out; have hncr2 := NBv3.out; have hnbr3 := NBv6.out; have hncr3 := NBv5.out; have hnbr4 := NBv8.out; have hncr4 := NBv7.out; have hnbr5 := NBv10.out; have hncr5 := NBv9.out; obtain ⟨hczr1, hczr2, hfzr1, hfzr2⟩ := cZ2 BKv1.out; have hnbr6 := NBz1.out; have hncr6 := NBz2.out; have hnbr7 := NBz3.out; have hncr7 := NBz4.out; have hnbr8 := NBz7.out; have hncr8 := NBz8.out; have hnbr9 := NBx1.out; have hncr9 := NBx2.out; obtain ⟨hczr3, hczr4, hfzr3, hfzr4⟩ := cZ2 BKz1.out; refine Stop.out ?_))
                                refine ⟨?_⟩
                                by_cases c159 : t156 = true
                                · subst c159
                                  rw [if_pos rfl] at H
                                  go_wp2_with (first | (go_at_call 36; (with_reducible refine (laws_sameInts.calls k4 _ _ t148 _ _ t102 true _ ?side1 ?side2 ?side3 ?side4 A158.out).mono ?_); (case side1 => repeat (first | exact (Kd.R_reads' HO_u1.out).2.2 | (with_reducible refine Kd.C_alloc ?_ _) | (with_reducible refine Kd.C_drewN ?_ _) | (with_reducible refine Kd.C_drew ?_))); (case side2 => exact (Kd.R_reads' HO_u1.out).2.1); (case side3 => repeat (first | exact (Kd.R_reads' HO_y2.out).2.2 | (with_reducible refine Kd.C_alloc ?_ _) | (with_reducible refine Kd.C_drewN ?_ _) | (with_reducible refine Kd.C_drew ?_))); (case side4 => exact (Kd.R_reads' HO_y2.out).2.1); rintro e w' ⟨rfl, ⟨nd, rfl⟩⟩; refine Stop.out ?_))
                                  refine ⟨?_⟩
                                  by_cases c160 : t151 = t105
                                  · rw [if_pos c160] at H
                                    obtain ⟨c160b0, c160b1⟩ := eqT c160
                                    clear c160
                                    obtain rfl := Option.some.inj H
                                    go_wp2
                                    go_ret
                                    exact ⟨rE, (hX HB.out)⟩
                                  · rw [if_neg c160] at H
                                    obtain ⟨c160b0, c160b1⟩ := eqF c160
                                    obtain rfl := Option.some.inj H
                                    go_wp2
                                    go_ret
                                    exact ⟨rE, (hX HB.out)⟩
                                · replace c159 := Bool.eq_false_iff.mpr c159
                                  subst c159
                                  rw [if_neg nft] at H
                                  obtain rfl := Option.some.inj H
                                  go_wp2_with (first | (go_at_call 36; (with_reducible refine (laws_sameInts.calls k4 _ _ t148 _ _ t102 false _ ?side1 ?side2 ?side3 ?side4 A158.out).mono ?_); (case side1 => repeat (first | exact (Kd.R_reads' HO_u1.out).2.2 | (with_reducible refine Kd.C_alloc ?_ _) | (with_reducible refine Kd.C_drewN ?_ _) | (with_reducible refine Kd.C_drew ?_))); (case side2 => exact (Kd.R_reads' HO_u1.out).2.1); (case side3 => repeat (first | exact (Kd.R_reads' HO_y2.out).2.2 | (with_reducible refine Kd.C_alloc ?_ _) | (with_reducible refine Kd.C_drewN ?_ _) | (with_reducible refine Kd.C_drew ?_))); (case side4 => exact (Kd.R_reads' HO_y2.out).2.1); rintro e w' ⟨rfl, ⟨nd, rfl⟩⟩))
                                  go_ret
                                  exact ⟨rE, (hX HB.out)⟩
                              · replace c157 := Bool.eq_false_iff.mpr c157
                                subst c157
                                rw [if_neg nft] at H
                                obtain rfl := Option.some.inj H
                                go_wp2_with (first | (refine goesM 22 126 Try.func22 #[.slice Aov1 t107.length cov1] ?_; refine (impl_Whole.calls k4 _ _ t107 false _ (cX (Kd.R_reads' HO_y1.out).2.2) ((Kd.R_reads' HO_y1.out).2.1) A156.out).mono ?_; rintro e wr1 ⟨rfl, hb⟩; refine ⟨_, rfl, ?_⟩; replace HO_y1 := Aside0.mk (Kd.R_below (rX HO_y1.out) hb); replace HO_y2 := Aside0.mk (Kd.R_below (rX HO_y2.out) hb); replace HO_y3 := Aside0.mk (Kd.R_below (rX HO_y3.out) hb); replace HO_y4 := Aside0.mk (Kd.R_below (rX HO_y4.out) hb); replace HO_y5 := Aside0.mk (Kd.R_below (rX HO_y5.out) hb); replace HO_w1 := Aside0.mk (Kd.R_below (rX HO_w1.out) hb); replace HO_u1 := Aside0.mk (Kd.R_below (rX HO_u1.out) hb); replace BKz1 := Aside0.mk (blk_below (bX BKz1.out) hb); replace BKz2 := Aside0.mk (blk_below (bX BKz2.out) hb); replace BKz3 := Aside0.mk (blk_below (bX BKz3.out) hb); replace BKz4 := Aside0.mk (blk_below (bX BKz4.out) hb); replace BKx1 := Aside0.mk (blk_below (bX BKx1.out) hb); replace BKv1 := Aside0.mk (blk_below (bX BKv1.out) hb); replace HB := Aside0.mk (below_step (hX HB.out) hb); clear hb))
                                go_ret
                                exact ⟨rE, (hX HB.out)⟩
                · replace c100 := Bool.eq_false_iff.mpr c100
                  subst c100
                  rw [if_neg nft] at H
                  obtain rfl := Option.some.inj H
                  have hnbv1 := NBz1.out
                  have hncv1 := NBz2.out
                  have hnbv2 := NBz3.out
                  have hncv2 := NBz4.out
                  have hnbv3 := NBz7.out
                  have hncv3 := NBz8.out
                  have hnbv4 := NBx1.out
                  have hncv4 := NBx2.out
                  obtain ⟨hczv1, hczv2, hfzv1, hfzv2⟩ := cZ2 BKz1.out
                  go_wp2_with (first | (refine goesM 38 78 Try.func38 #[.agg #[.slice Aoz1 t102.length coz1, .int .i64 t105]] ?_; refine (impl_RowsOk.calls kj77 _ _ t102 t105 false _ (cX (Kd.R_reads' HO_y2.out).2.2) ((Kd.R_reads' HO_y2.out).2.1) A99.out).mono ?_; rintro e wv1 ⟨rfl, hb⟩; refine ⟨_, rfl, ?_⟩; replace HO_y1 := Aside0.mk (Kd.R_below (rX HO_y1.out) hb); replace HO_y2 := Aside0.mk (Kd.R_below (rX HO_y2.out) hb); replace HO_y3 := Aside0.mk (Kd.R_below (rX HO_y3.out) hb); replace HO_y4 := Aside0.mk (Kd.R_below (rX HO_y4.out) hb); replace HO_y5 := Aside0.mk (Kd.R_below (rX HO_y5.out) hb); replace HO_w1 := Aside0.mk (Kd.R_below (rX HO_w1.out) hb); replace BKz1 := Aside0.mk (blk_below (bX BKz1.out) hb); replace BKz2 := Aside0.mk (blk_below (bX BKz2.out) hb); replace BKz3 := Aside0.mk (blk_below (bX BKz3.out) hb); replace BKz4 := Aside0.mk (blk_below (bX BKz4.out) hb); replace BKx1 := Aside0.mk (blk_below (bX BKx1.out) hb); replace HB := Aside0.mk (below_step (hX HB.out) hb); clear hb; obtain ⟨Aov1, cov1, eov1⟩ := Kd.R_slice HO_y1.out; subst eov1))
                  go_ret
                  exact ⟨rE, (hX HB.out)⟩
end Go.Proofs.Yteamagejhbkhnaa.P
namespace Go.Proofs.YteamagejhbkhnaaZ
open Go.RowKit Go.Proofs.YteamagejhbkhnaaW.PrintWords Go.Proofs.YteamagejhbkhnaaW.PrintLast
def Opens {α : Type} (P : Program) (t : TypeId) (d : Kd α) (wf : α → Prop) : Prop :=
  ∀ (H : Type) (enc : TypeId × Value → H) (w : World) (fuel : Nat) (cs : List Value) (x : DataW H × List MemPlace),
    DataW.trod enc P w 0 (fun _ => true) true fuel t cs = some x → ∃ a, d.K w a cs ∧ wf a
theorem Opens.int {P : Program} {t : TypeId} {k : IntKind} (hu : P.underlying t = some (.int k)) : Opens P t (Kd.int k) (fun n => (Lit.int k n).wf = true) := by
  intro H enc w fuel cs x h
  obtain ⟨n, rfl, _, hw⟩ := DataW.trod_int hu h
  exact ⟨n, rfl, hw⟩
theorem Opens.bool {P : Program} {t : TypeId} (hu : P.underlying t = some .bool) : Opens P t Kd.bool (fun _ => True) := by
  intro H enc w fuel cs x h
  obtain ⟨n, rfl, _⟩ := DataW.trod_bool hu h
  exact ⟨n, rfl, trivial⟩
theorem exists_list {α : Type} (Q : Nat → α → Prop) : ∀ n, (∀ i, i < n → ∃ y, Q i y) → ∃ xs : List α, xs.length = n ∧ ∀ j p, xs[j]? = some p → Q j p
  | 0, _ => ⟨[], rfl, fun j p h => by simp at h⟩
  | n + 1, h => by
    obtain ⟨xs, hl, hx⟩ := exists_list Q n (fun i hi => h i (by omega))
    obtain ⟨y, hy⟩ := h n (by omega)
    refine ⟨xs ++ [y], by simp [hl], fun j p hj => ?_⟩
    by_cases hjn : j < n
    · rw [List.getElem?_append_left (by omega)] at hj
      exact hx j p hj
    · have hlt := (List.getElem?_eq_some_iff.1 hj).1
      rw [List.length_append, List.length_singleton, hl] at hlt
      obtain rfl : j = n := by omega
      rw [List.getElem?_append_right (by omega), hl, Nat.sub_self] at hj
      obtain rfl : y = p := by simpa using hj
      exact hy
theorem Opens.slice {α : Type} {P : Program} {t e : TypeId} {d : Kd α} {wf : α → Prop} (e' : Nat) (hu : P.underlying t = some (.slice e)) (hc : P.cellsOf e = d.sz) (he : Opens P e d wf) :
    Opens P t (Kd.slice e' d) (fun xs => xs.length ≤ 9223372036854775807 ∧ ∀ a ∈ xs, wf a) := by
  intro H enc w fuel cs x h
  rcases DataW.trod_slice hu h with ⟨rfl, _⟩ | ⟨a, len, cap, elems, rest, n, _, rfl, _, hb, hl, hm, hlen, hel, _, _⟩
  · exact ⟨[], ⟨none, 0, rfl, Nat.le_refl _, Kd.C_nil _ _⟩, by simp⟩
  · have each : ∀ i, i < len → ∃ y, wf y ∧ ∃ c, c.length = d.sz ∧ d.K w y c ∧ ∀ j u, c[j]? = some u → w.cell? (a.add (i * d.sz + j)) = some u := by
      intro i hi
      have h1 := hel i hi
      rw [List.getElem?_eq_getElem (by omega), hc, Option.bind_eq_some_iff] at h1
      obtain ⟨c, hcs, hy⟩ := h1
      obtain ⟨y, hK, hw⟩ := he _ _ _ _ _ _ hy
      refine ⟨y, hw, c, d.K_len hK, hK, fun j u hj => ?_⟩
      have h2 := World.cells?_some hcs
      rw [← Addr.add_add]
      have hjl := (List.getElem?_eq_some_iff.1 hj).1
      rw [← hj]
      exact (h2.2.2 j (by rw [← h2.2.1]; exact hjl))
    obtain ⟨xs, hxl, hxs⟩ := exists_list _ len each
    simp only [maxLen] at hm
    refine ⟨xs, ⟨some a, cap, by rw [hxl], by omega, rfl, by omega, fun _ => ⟨a, rfl, fun j p hj => ?_⟩⟩, by omega, fun y hy => ?_⟩
    · obtain ⟨_, c, hcl, hK, hcell⟩ := hxs j p hj
      exact ⟨c, hcl, hK, hcell⟩
    · obtain ⟨j, hj⟩ := List.getElem?_of_mem hy
      exact (hxs j y hj).1
def OpensF {α : Type} (P : Program) (fs : Array Field) (o : Nat) (d : Kd α) (wf : α → Prop) : Prop :=
  ∀ (H : Type) (enc : TypeId × Value → H) (w : World) (fuel : Nat) (cs : List Value) (xs : List (DataW H × List MemPlace)), cs.length = o + d.sz → xs.length = fs.size →
    (∀ (j : Nat) (f : Field), fs[j]? = some f → DataW.trod enc P w 0 (fun _ => true) true fuel f.type ((cs.drop f.offset).take (P.cellsOf f.type)) = xs[j]?) → ∃ a, d.K w a (cs.drop o) ∧ wf a
theorem OpensF.cons {α β : Type} {P : Program} {fs : Array Field} {o : Nat} {d : Kd α} {d' : Kd β} {wf : α → Prop} {wf' : β → Prop} (i : Nat) (f : Field) (hf : fs[i]? = some f) (ho : f.offset = o) (hc : P.cellsOf f.type = d.sz) (h : Opens P f.type d wf)
    (h' : OpensF P fs (o + d.sz) d' wf') : OpensF P fs o (Kd.pair d d') (fun x => wf x.1 ∧ wf' x.2) := by
  intro H enc w fuel cs xs hl hx hall
  have h1 := hall i f hf
  have hi : i < xs.length := by rw [hx]; exact (Array.getElem?_eq_some_iff.1 hf).1
  rw [List.getElem?_eq_getElem hi, ho, hc] at h1
  obtain ⟨a, hK, hw⟩ := h _ _ _ _ _ _ h1
  have hl' : cs.length = o + (d.sz + d'.sz) := hl
  obtain ⟨b, hK', hw'⟩ := h' H enc w fuel cs xs (by omega) hx hall
  refine ⟨(a, b), ⟨_, _, ?_, hK, hK'⟩, hw, hw'⟩
  rw [← List.drop_drop, List.take_append_drop]
theorem Opens.struct {α β : Type} {P : Program} {t : TypeId} {fs : Array Field} {d : Kd α} {wf : α → Prop} (f : β → α) (g : α → β) (hfg : ∀ a, f (g a) = a) (hu : P.underlying t = some (.struct fs)) (hc : P.cellsOf t = d.sz) (h : OpensF P fs 0 d wf) :
    Opens P t (Kd.iso d f) (fun b => wf (f b)) := by
  intro H enc w fuel cs x hx
  obtain ⟨xs, n, _, _, hl, hxl, hall⟩ := DataW.trod_struct hu hx
  obtain ⟨a, hK, hw⟩ := h H enc w n cs xs (by omega) hxl hall
  refine ⟨g a, ?_, ?_⟩
  · show d.K w (f (g a)) cs
    rw [hfg]; exact hK
  · show wf (f (g a))
    rw [hfg]; exact hw
theorem Opens.param {α : Type} {P : Program} {t : TypeId} {d : Kd α} {wf : α → Prop} (h : Opens P t d wf) {H : Type} {enc : TypeId × Value → H} {w : World} {v : Value} {D : DataW H} {ps : List MemPlace} (hv : DataW.Trod enc P w 0 (fun _ => true) true t v D ps) :
    ∃ a, d.K w a v.cells.toList ∧ wf a := by
  obtain ⟨fuel, hf⟩ := hv
  exact h _ _ _ _ _ _ hf
end Go.Proofs.YteamagejhbkhnaaZ
namespace Go.Proofs.Yteamagejhbkhnaa.P
open Go.RowKit Go.Proofs.YteamagejhbkhnaaW.PrintWords Go.Proofs.YteamagejhbkhnaaW.PrintLast Go.Proofs.YteamagejhbkhnaaZ
def PureFnRows : Prop := ∀ (x0 : List Int), (x0.length ≤ 9223372036854775807 ∧ ∀ y ∈ x0, (Lit.int .u8 y).wf = true) → ∃ k, laws_FnRows.f k x0 = some true
end Go.Proofs.Yteamagejhbkhnaa.P
namespace Go.Proofs.Yteamagejhbkhnaa.P
open Go.Proofs.YteamagejhbkhnaaZ Go.RowKit Go.Proofs.YteamagejhbkhnaaW.PrintWords Go.Proofs.YteamagejhbkhnaaW.PrintLast Go.Proofs.YteamagejhbkhnaaW.PrintMore
attribute [local go_sem] max2_int min2_int max_two min_two max_three min_three max_four min_four   -- for this text's walks alone
set_option linter.unusedVariables false
set_option linter.unusedSimpArgs false
end Go.Proofs.Yteamagejhbkhnaa.P
namespace Go.Proofs.Yteamagejhbkhnaa.P
open Go.Proofs.YteamagejhbkhnaaZ Go.RowKit Go.Proofs.YteamagejhbkhnaaW.PrintWords Go.Proofs.YteamagejhbkhnaaW.PrintLast Go.Proofs.YteamagejhbkhnaaW.PrintMore
attribute [local go_sem] max2_int min2_int max_two min_two max_three min_three max_four min_four   -- for this text's walks alone
set_option linter.unusedVariables false
set_option linter.unusedSimpArgs false
end Go.Proofs.Yteamagejhbkhnaa.P
namespace Go.Proofs.Yteamagejhbkhnaa.P
open Go.Proofs.YteamagejhbkhnaaZ Go.RowKit Go.Proofs.YteamagejhbkhnaaW.PrintWords Go.Proofs.YteamagejhbkhnaaW.PrintLast Go.Proofs.YteamagejhbkhnaaW.PrintMore
attribute [local go_sem] max2_int min2_int max_two min_two max_three min_three max_four min_four   -- for this text's walks alone
set_option linter.unusedVariables false
set_option linter.unusedSimpArgs false
end Go.Proofs.Yteamagejhbkhnaa.P
namespace Go.Proofs.Yteamagejhbkhnaa.P
open Go.Proofs.YteamagejhbkhnaaZ Go.RowKit Go.Proofs.YteamagejhbkhnaaW.PrintWords Go.Proofs.YteamagejhbkhnaaW.PrintLast Go.Proofs.YteamagejhbkhnaaW.PrintMore
attribute [local go_sem] max2_int min2_int max_two min_two max_three min_three max_four min_four   -- for this text's walks alone
set_option linter.unusedVariables false
set_option linter.unusedSimpArgs false
end Go.Proofs.Yteamagejhbkhnaa.P
namespace Go.Proofs.Yteamagejhbkhnaa.P
open Go.Proofs.YteamagejhbkhnaaZ Go.RowKit Go.Proofs.YteamagejhbkhnaaW.PrintWords Go.Proofs.YteamagejhbkhnaaW.PrintLast Go.Proofs.YteamagejhbkhnaaW.PrintMore
attribute [local go_sem] max2_int min2_int max_two min_two max_three min_three max_four min_four   -- for this text's walks alone
set_option linter.unusedVariables false
set_option linter.unusedSimpArgs false
end Go.Proofs.Yteamagejhbkhnaa.P
namespace Go.Proofs.Yteamagejhbkhnaa.P
open Go.Proofs.YteamagejhbkhnaaZ Go.RowKit Go.Proofs.YteamagejhbkhnaaW.PrintWords Go.Proofs.YteamagejhbkhnaaW.PrintLast Go.Proofs.YteamagejhbkhnaaW.PrintMore
attribute [local go_sem] max2_int min2_int max_two min_two max_three min_three max_four min_four   -- for this text's walks alone
set_option linter.unusedVariables false
set_option linter.unusedSimpArgs false
end Go.Proofs.Yteamagejhbkhnaa.P
namespace Go.Proofs.YteamagejhbkhnaaW.PrintWords
section
variable {α : Type}
theorem Ev.shift {g : Nat → Option α} {r : α} (h : Ev (fun k => g (k + 1)) r) : Ev g r := Ev.step (fun _ => rfl) h
theorem Ev.val {a r : α} (h : a = r) : Ev (fun _ => some a) r := by subst h; exact Ev.now _
theorem Ev.to {g : Nat → Option α} {a r : α} (h : Ev g a) (e : a = r) : Ev g r := e ▸ h
theorem Ev.pos {p : Prop} [Decidable p] {g f : Nat → Option α} {r : α} (h : p) (hg : Ev g r) : Ev (fun k => if p then g k else f k) r := by
  simp only [if_pos h]; exact hg
theorem Ev.neg {p : Prop} [Decidable p] {g f : Nat → Option α} {r : α} (h : ¬ p) (hf : Ev f r) : Ev (fun k => if p then g k else f k) r := by
  simp only [if_neg h]; exact hf
end
end Go.Proofs.YteamagejhbkhnaaW.PrintWords
namespace Go.Proofs.YteamagejhbkhnaaZ
open Go.RowKit Go.Proofs.YteamagejhbkhnaaW.PrintWords
theorem back {n : Nat} {Q : Nat → Prop} (hn : Q n) (hs : ∀ i, i < n → Q (i + 1) → Q i) : ∀ i, i ≤ n → Q i := by
  intro i hi
  obtain ⟨d, rfl⟩ : ∃ d, n = i + d := ⟨n - i, by omega⟩
  clear hi
  induction d generalizing i with
  | zero => exact hn
  | succ d ih =>
    refine hs i (by omega) (ih (i + 1) ?_ ?_)
    · rw [show i + 1 + d = i + (d + 1) by omega]; exact hn
    · intro j hj; exact hs j (by omega)
theorem w64 {n : Int} (h1 : -9223372036854775808 ≤ n) (h2 : n < 9223372036854775808) : wrap64 n = n := by unfold wrap64; omega
theorem succ64 {i n : Nat} (h : i < n) (hn : n ≤ 9223372036854775807) : wrap64 ((i : Int) + 1) = ((i + 1 : Nat) : Int) := by
  rw [w64 (by omega) (by omega)]; simp
section
variable {τ σ : Type}
theorem getD_get {xs : List τ} {i : Nat} {x d : τ} (h : xs[i]? = some x) : xs.getD ((i : Int)).toNat d = x := by
  rw [Int.toNat_natCast, List.getD_eq_getElem?_getD, h]; rfl
end
theorem rd_get {xs : List Int} {i : Nat} {x : Int} (h : xs[i]? = some x) : rd xs i = x := getD_get h
end Go.Proofs.YteamagejhbkhnaaZ
section
set_option linter.unusedSimpArgs false
set_option linter.unusedVariables false
namespace Go.Proofs.Yteamagejhbkhnaa.P
open Go.RowKit Go.Proofs.YteamagejhbkhnaaW.PrintWords Go.Proofs.YteamagejhbkhnaaW.PrintLast Go.Proofs.YteamagejhbkhnaaZ
section
variable {α β : Type}
def Got (o : Option α) (P : α → Prop) : Prop := ∃ a, o = some a ∧ P a
theorem Got.bind {o : Option α} {f : α → Option β} {P : α → Prop} {Q : β → Prop} (h : Got o P) (hf : ∀ a, P a → Got (f a) Q) : Got (o.bind f) Q := by
  obtain ⟨a, rfl, hp⟩ := h
  exact hf a hp
theorem Got.now {a : α} {P : α → Prop} (h : P a) : Got (some a) P := ⟨a, rfl, h⟩
theorem Got.pos {p : Prop} [Decidable p] {a b : Option α} {P : α → Prop} (hp : p) (h : Got a P) : Got (if p then a else b) P := by rw [if_pos hp]; exact h
theorem Got.neg {p : Prop} [Decidable p] {a b : Option α} {P : α → Prop} (hp : ¬ p) (h : Got b P) : Got (if p then a else b) P := by rw [if_neg hp]; exact h
theorem Got.ite {p : Prop} [Decidable p] {a b : Option α} {P : α → Prop} (h1 : p → Got a P) (h2 : ¬ p → Got b P) : Got (if p then a else b) P := by
  by_cases h : p
  · exact Got.pos h (h1 h)
  · exact Got.neg h (h2 h)
theorem Got.mono {o : Option α} {P Q : α → Prop} (h : Got o P) (f : ∀ a, P a → Q a) : Got o Q := by obtain ⟨a, h1, h2⟩ := h; exact ⟨a, h1, f a h2⟩
def EvG (g : Nat → Option α) (P : α → Prop) : Prop := ∃ a, Ev g a ∧ P a
theorem EvG.of_got {o : Option α} {P : α → Prop} (h : Got o P) : EvG (fun _ => o) P := by obtain ⟨a, rfl, hp⟩ := h; exact ⟨a, Ev.now _, hp⟩
theorem EvG.of_ev {g : Nat → Option α} {P : α → Prop} {a : α} (h : Ev g a) (hp : P a) : EvG g P := ⟨a, h, hp⟩
theorem EvG.now {a : α} {P : α → Prop} (h : P a) : EvG (fun _ => some a) P := ⟨a, Ev.now _, h⟩
theorem EvG.bind {g : Nat → Option α} {f : α → Nat → Option β} {P : α → Prop} {Q : β → Prop} (h : EvG g P) (hf : ∀ a, P a → EvG (f a) Q) : EvG (fun k => (g k).bind fun a => f a k) Q := by
  obtain ⟨a, h1, hp⟩ := h
  obtain ⟨b, h2, hq⟩ := hf a hp
  exact ⟨b, Ev.bind h1 h2, hq⟩
theorem EvG.shift {g : Nat → Option α} {P : α → Prop} (h : EvG (fun k => g (k + 1)) P) : EvG g P := by obtain ⟨a, h1, hp⟩ := h; exact ⟨a, Ev.shift h1, hp⟩
theorem EvG.pos {p : Prop} [Decidable p] {a b : Nat → Option α} {P : α → Prop} (hp : p) (h : EvG a P) : EvG (fun k => if p then a k else b k) P := by simp only [hp, if_true]; exact h
theorem EvG.neg {p : Prop} [Decidable p] {a b : Nat → Option α} {P : α → Prop} (hp : ¬ p) (h : EvG b P) : EvG (fun k => if p then a k else b k) P := by simp only [hp, if_false]; exact h
theorem EvG.ite {p : Prop} [Decidable p] {a b : Nat → Option α} {P : α → Prop} (h1 : p → EvG a P) (h2 : ¬ p → EvG b P) : EvG (fun k => if p then a k else b k) P := by
  by_cases h : p
  · exact EvG.pos h (h1 h)
  · exact EvG.neg h (h2 h)
theorem EvG.mono {g : Nat → Option α} {P Q : α → Prop} (h : EvG g P) (f : ∀ a, P a → Q a) : EvG g Q := by obtain ⟨a, h1, h2⟩ := h; exact ⟨a, h1, f a h2⟩
end
end Go.Proofs.Yteamagejhbkhnaa.P
end
section
set_option linter.unusedSimpArgs false
set_option linter.unusedVariables false
namespace Go.Proofs.Yteamagejhbkhnaa.P
open Go.RowKit Go.Proofs.YteamagejhbkhnaaW.PrintWords Go.Proofs.YteamagejhbkhnaaW.PrintLast Go.Proofs.YteamagejhbkhnaaZ
def rin (l : List Int) : List Int × Int := if l.length = 20 then (l.take 4, rd l 13) else ([], 0)
theorem impl_RowsIn_eq (l : List Int) : impl_RowsIn.f l = some (rin l) := by
  simp only [impl_RowsIn.f, rin, impl_StateAt.f, slices_Clone_int_int.f]
  by_cases h : l.length = 20
  · have c1 : (l.length : Int) = 20 := by omega
    have c3 : (l.take 4).length ≤ 17592186044416 := by rw [List.length_take]; omega
    rw [if_pos h]
    simp only [c1, c3, if_true, Option.bind_some, show (4 : Int) ≤ 20 by decide, show (0 : Int) ≤ 13 by decide, show (13 : Int) < 20 by decide]
  · have c1 : ¬ (l.length : Int) = 20 := by omega
    rw [if_neg h]
    simp only [c1, if_false]
theorem rin_len (l : List Int) : (rin l).1.length = 4 ∨ (rin l) = ([], 0) := by
  unfold rin
  split
  · left; rw [List.length_take]; omega
  · right; rfl
def dup (h : List Int) (i : Nat) : Prop := ∃ j, j < i ∧ rd h (j : Int) = rd h (i : Int)
def oneOk (h : List Int) (i : Nat) : Prop := rd h (i : Int) = 0 ∨ (1 ≤ rd h (i : Int) ∧ rd h (i : Int) ≤ 6 ∧ ¬ dup h i)
def allOk (h : List Int) (i : Nat) : Prop := ∀ j, i ≤ j → j < h.length → oneOk h j
theorem allOk_step {h : List Int} {i : Nat} (hi : i < h.length) : allOk h i ↔ (oneOk h i ∧ allOk h (i + 1)) := by
  constructor
  · intro a; exact ⟨a i (Nat.le_refl _) hi, fun j h1 h2 => a j (by omega) h2⟩
  · intro ⟨a, b⟩ j h1 h2
    by_cases e : j = i
    · rw [e]; exact a
    · exact b j (by omega) h2
noncomputable def okB (h : List Int) (i : Nat) (s : Int) : Bool := @decide (allOk h i ∧ h.length = 4 ∧ 0 ≤ s ∧ s ≤ 5) (Classical.propDecidable _)
theorem okB_iff {h : List Int} {i : Nat} {s : Int} : okB h i s = true ↔ (allOk h i ∧ h.length = 4 ∧ 0 ≤ s ∧ s ≤ 5) := by
  unfold okB
  exact @decide_eq_true_iff _ (Classical.propDecidable _)
theorem okB_false {h : List Int} {i : Nat} {s : Int} (hi : i < h.length) (hn : ¬ oneOk h i) : okB h i s = false := by
  rw [Bool.eq_false_iff]
  intro a
  exact hn ((allOk_step hi).mp (okB_iff.mp a).1).1
theorem okB_next {h : List Int} {i : Nat} {s : Int} (hi : i < h.length) (hy : oneOk h i) : okB h i s = okB h (i + 1) s := by
  rw [Bool.eq_iff_iff, okB_iff, okB_iff, allOk_step hi]
  exact ⟨fun a => ⟨a.1.2, a.2⟩, fun a => ⟨⟨hy, a.1⟩, a.2⟩⟩
theorem okB_end (h : List Int) (s : Int) : okB h h.length s = decide (h.length = 4 ∧ 0 ≤ s ∧ s ≤ 5) := by
  rw [Bool.eq_iff_iff, okB_iff, decide_eq_true_iff]
  have : allOk h h.length := fun j h1 h2 => absurd h2 (by omega)
  exact ⟨fun a => a.2, fun a => ⟨this, a⟩⟩
theorem key_ev (h : List Int) (hl : h.length ≤ 9223372036854775807) (s v : Int) : ∀ p : Nat, p ≤ h.length → ∃ r : Int, Ev (fun k => spec_KeyOf.l0 k v (p : Int) h s) r ∧
    ((r = -1 ∧ ∀ j : Nat, p ≤ j → j < h.length → rd h (j : Int) ≠ v) ∨ ∃ q : Nat, r = (q : Int) ∧ p ≤ q ∧ q < h.length ∧ rd h (q : Int) = v ∧ ∀ j : Nat, p ≤ j → j < q → rd h (j : Int) ≠ v) := by
  refine back ?_ fun p hp ih => ?_
  · refine ⟨-1, Ev.shift ?_, Or.inl ⟨rfl, fun j h1 h2 => absurd h2 (by omega)⟩⟩
    simp only [spec_KeyOf.l0, Int.lt_irrefl, if_false]
    exact Ev.now _
  · have c0 : (0 : Int) ≤ (p : Int) := by omega
    have c1 : (p : Int) < (h.length : Int) := by omega
    by_cases e : rd h (p : Int) = v
    · refine ⟨(p : Int), Ev.shift ?_, Or.inr ⟨p, rfl, Nat.le_refl _, hp, e, fun j h1 h2 => absurd h2 (by omega)⟩⟩
      simp only [spec_KeyOf.l0, c0, c1, e, if_true]
      exact Ev.now _
    · obtain ⟨r, h1, h2⟩ := ih
      refine ⟨r, Ev.shift ?_, ?_⟩
      · simp only [spec_KeyOf.l0, c0, c1, e, if_true, if_false, succ64 hp hl]
        exact h1
      · rcases h2 with ⟨a, b⟩ | ⟨q, a, b, c, d, f⟩
        · refine Or.inl ⟨a, fun j h3 h4 => ?_⟩
          by_cases ej : j = p
          · rw [ej]; exact e
          · exact b j (by omega) h4
        · refine Or.inr ⟨q, a, by omega, c, d, fun j h3 h4 => ?_⟩
          by_cases ej : j = p
          · rw [ej]; exact e
          · exact f j (by omega) h4
theorem index_ev (x : List Int) (hl : x.length ≤ 9223372036854775807) (v : Int) : ∀ p : Nat, p ≤ x.length → ∃ r : Int, Ev (fun k => slices_Index_int_int.l0 k x v (x.length : Int) (p : Int)) r ∧
    (r ≥ 0 ↔ ∃ j : Nat, p ≤ j ∧ j < x.length ∧ rd x (j : Int) = v) := by
  refine back ?_ fun p hp ih => ?_
  · refine ⟨-1, Ev.shift ?_, ?_⟩
    · simp only [slices_Index_int_int.l0, Int.lt_irrefl, if_false]
      exact Ev.now _
    · constructor
      · intro h; omega
      · intro ⟨j, h1, h2, _⟩; omega
  · have c0 : (0 : Int) ≤ (p : Int) := by omega
    have c1 : (p : Int) < (x.length : Int) := by omega
    by_cases e : v = rd x (p : Int)
    · refine ⟨(p : Int), Ev.shift ?_, ?_⟩
      · simp only [slices_Index_int_int.l0, c0, c1, if_true]
        refine Ev.pos e (Ev.now _)
      · exact ⟨fun _ => ⟨p, Nat.le_refl _, hp, e.symm⟩, fun _ => c0⟩
    · obtain ⟨r, h1, h2⟩ := ih
      refine ⟨r, Ev.shift ?_, ?_⟩
      · simp only [slices_Index_int_int.l0, c0, c1, if_true, succ64 hp hl]
        refine Ev.neg e h1
      · rw [h2]
        constructor
        · intro ⟨j, h3, h4, h5⟩; exact ⟨j, by omega, h4, h5⟩
        · intro ⟨j, h3, h4, h5⟩
          refine ⟨j, ?_, h4, h5⟩
          by_cases ej : j = p
          · rw [ej] at h5; exact absurd h5.symm e
          · omega
theorem rd_take (h : List Int) {i j : Nat} (hj : j < i) (hl : j < h.length) : rd (h.take i) (j : Int) = rd h (j : Int) := by
  have h1 : (h.take i)[j]? = some h[j] := by rw [List.getElem?_take, if_pos hj]; exact List.getElem?_eq_getElem hl
  rw [rd_get h1, rd_get (List.getElem?_eq_getElem hl)]
theorem spec_RowsOk_ev (h : List Int) (s : Int) (hl : h.length ≤ 1048576) : Ev (fun k => spec_RowsOk.f k h s) (okB h 0 s) := by
  simp only [spec_RowsOk.f]
  refine back (n := h.length) (Q := fun i => Ev (fun k => spec_RowsOk.l0 k (i : Int) h s) (okB h i s)) ?_ (fun i hi ih => ?_) 0 (Nat.zero_le _)
  · refine Ev.shift ?_
    rw [okB_end]
    simp only [spec_RowsOk.l0, Int.lt_irrefl, if_false, spec_l1In.f]
    by_cases h4 : h.length = 4
    · have c : (h.length : Int) = 4 := by omega
      simp only [c, h4, if_true, true_and]
      by_cases h0 : s ≥ 0
      · simp only [h0, if_true, Option.bind_some]
        exact Ev.val (by first | (simp; done) | (simp; omega))
      · simp only [h0, if_false, Option.bind_some]
        exact Ev.val (by first | (simp; done) | (simp; omega))
    · have c : ¬ (h.length : Int) = 4 := by omega
      simp only [c, h4, if_false, false_and, decide_false]
      exact Ev.now _
  · have c0 : (0 : Int) ≤ (i : Int) := by omega
    have c1 : (i : Int) < (h.length : Int) := by omega
    refine Ev.shift ?_
    simp only [spec_RowsOk.l0, c0, c1, if_true, succ64 hi (by omega), spec_ValOk.f, spec_l1In.f]
    by_cases hz : rd h (i : Int) = 0
    · rw [okB_next hi (Or.inl hz)]
      simp only [hz, if_true]
      exact ih
    · simp only [hz, if_false]
      by_cases h1 : rd h (i : Int) ≥ 1
      · by_cases h6 : rd h (i : Int) ≤ 6
        · simp only [h1, h6, if_true, decide_true, Option.bind_some]
          obtain ⟨r, e1, e2⟩ := key_ev h (by omega) s (rd h (i : Int)) 0 (Nat.zero_le _)
          have e1' : Ev (fun k => spec_KeyOf.f k h s (rd h (i : Int))) r := e1
          refine Ev.bind e1' ?_
          by_cases hr : r = (i : Int)
          · have hd : ¬ dup h i := by
              rintro ⟨j, hj1, hj2⟩
              rcases e2 with ⟨a, b⟩ | ⟨q, a, b, c, d, f⟩
              · exact b j (Nat.zero_le _) (by omega) hj2
              · exact f j (Nat.zero_le _) (by omega) hj2
            rw [okB_next hi (Or.inr ⟨h1, h6, hd⟩)]
            simp only [hr, if_true]
            exact ih
          · have hd : dup h i := by
              rcases e2 with ⟨a, b⟩ | ⟨q, a, b, c, d, f⟩
              · exact absurd rfl (b i (Nat.zero_le _) hi)
              · refine ⟨q, ?_, d⟩
                apply Classical.byContradiction
                intro hn
                by_cases hq : i < q
                · exact f i (Nat.zero_le _) hq rfl
                · exact hr (by omega)
            rw [okB_false hi (fun a => a.elim hz (fun a => a.2.2 hd))]
            simp only [hr, if_false]
            exact Ev.now _
        · rw [okB_false hi (fun a => a.elim hz (fun a => h6 a.2.1))]
          simp only [h1, h6, if_true, decide_false, Option.bind_some, Bool.false_eq_true, if_false]
          exact Ev.now _
      · rw [okB_false hi (fun a => a.elim hz (fun a => h1 a.1))]
        simp only [h1, Option.bind_some, Bool.false_eq_true, if_false]
        exact Ev.now _
theorem impl_RowsOk_ev (h : List Int) (s : Int) (hl : h.length ≤ 1048576) : Ev (fun k => impl_RowsOk.f k h s) (okB h 0 s) := by
  simp only [impl_RowsOk.f]
  refine back (n := h.length) (Q := fun i => Ev (fun k => impl_RowsOk.l0 k h (h.length : Int) (i : Int) h s) (okB h i s)) ?_ (fun i hi ih => ?_) 0 (Nat.zero_le _)
  · refine Ev.shift ?_
    rw [okB_end]
    simp only [impl_RowsOk.l0, Int.lt_irrefl, if_false, impl_from.f]
    by_cases h4 : h.length = 4
    · have c : (h.length : Int) = 4 := by omega
      simp only [c, h4, if_true, true_and]
      by_cases h0 : s ≥ 0
      · simp only [h0, if_true, Option.bind_some]
        exact Ev.val (by first | (simp; done) | (simp; omega))
      · simp only [h0, if_false, Option.bind_some]
        exact Ev.val (by first | (simp; done) | (simp; omega))
    · have c : ¬ (h.length : Int) = 4 := by omega
      simp only [c, h4, if_false, false_and, decide_false]
      exact Ev.now _
  · have c0 : (0 : Int) ≤ (i : Int) := by omega
    have c1 : (i : Int) < (h.length : Int) := by omega
    have c2 : (i : Int) ≤ (h.length : Int) := by omega
    refine Ev.shift ?_
    simp only [impl_RowsOk.l0, c0, c1, c2, if_true, succ64 hi (by omega), impl_ValOk.f, impl_from.f, Int.toNat_natCast]
    by_cases hz : rd h (i : Int) = 0
    · rw [okB_next hi (Or.inl hz)]
      simp only [hz, if_true]
      exact ih
    · simp only [hz, if_false]
      by_cases h1 : rd h (i : Int) ≥ 1
      · by_cases h6 : rd h (i : Int) ≤ 6
        · simp only [h1, h6, if_true, decide_true, Option.bind_some]
          obtain ⟨r, e1, e2⟩ := index_ev (h.take i) (by rw [List.length_take]; omega) (rd h (i : Int)) 0 (Nat.zero_le _)
          have e1' : Ev (fun k => slices_Contains_int_int.f k (h.take i) (rd h (i : Int))) (decide (r ≥ 0)) := by
            simp only [slices_Contains_int_int.f]
            exact Ev.bind (show Ev (fun k => slices_Index_int_int.f k (h.take i) (rd h (i : Int))) r from e1) (Ev.now _)
          refine Ev.bind e1' ?_
          have hd : r ≥ 0 ↔ dup h i := by
            rw [e2]
            constructor
            · intro ⟨j, _, h3, h4⟩
              rw [List.length_take] at h3
              exact ⟨j, by omega, by rw [rd_take h (by omega) (by omega)] at h4; exact h4⟩
            · intro ⟨j, h3, h4⟩
              exact ⟨j, Nat.zero_le _, by rw [List.length_take]; omega, by rw [rd_take h h3 (by omega)]; exact h4⟩
          by_cases hr : r ≥ 0
          · rw [okB_false hi (fun a => a.elim hz (fun a => a.2.2 (hd.mp hr)))]
            simp only [hr, decide_true, if_true]
            exact Ev.now _
          · rw [okB_next hi (Or.inr ⟨h1, h6, fun a => hr (hd.mpr a)⟩)]
            simp only [hr, decide_false, Bool.false_eq_true, if_false]
            exact ih
        · rw [okB_false hi (fun a => a.elim hz (fun a => h6 a.2.1))]
          simp only [h1, h6, if_true, decide_false, Option.bind_some, Bool.false_eq_true, if_false]
          exact Ev.now _
      · rw [okB_false hi (fun a => a.elim hz (fun a => h1 a.1))]
        simp only [h1, Option.bind_some, Bool.false_eq_true, if_false]
        exact Ev.now _
theorem okB_elim {h : List Int} {s : Int} (a : okB h 0 s = true) : h.length = 4 ∧ 0 ≤ s ∧ s ≤ 5 ∧ ∀ i : Nat, i < 4 → rd h (i : Int) = 0 ∨ (1 ≤ rd h (i : Int) ∧ rd h (i : Int) ≤ 6) := by
  have b := okB_iff.mp a
  refine ⟨b.2.1, b.2.2.1, b.2.2.2, fun i hi => ?_⟩
  rcases b.1 i (Nat.zero_le _) (by omega) with c | c
  · exact Or.inl c
  · exact Or.inr ⟨c.1, c.2.1⟩
end Go.Proofs.Yteamagejhbkhnaa.P
end
section
set_option linter.unusedSimpArgs false
set_option linter.unusedVariables false
namespace Go.Proofs.Yteamagejhbkhnaa.P
open Go.RowKit Go.Proofs.YteamagejhbkhnaaW.PrintWords Go.Proofs.YteamagejhbkhnaaW.PrintLast Go.Proofs.YteamagejhbkhnaaZ
def own (h : List Int) : Nat → Int → Int
  | 0, _ => 0
  | k + 1, v => if rd h (k : Int) = v then (k : Int) + 1 else own h k v
def cnt (h : List Int) : Nat → Int → Int
  | 0, _ => 0
  | k + 1, c => cnt h k c + (if rd h (k : Int) ≠ 0 ∧ rd h (k : Int) % 3 = c then 1 else 0)
def via (h : List Int) (s : Int) : Nat → Int → Int
  | 0, _ => 0
  | k + 1, v => if rd h (k : Int) = v ∧ (k : Int) < s - 1 then (k : Int) + 1 else via h s k v
theorem cnt_le (h : List Int) (c : Int) : ∀ k, 0 ≤ cnt h k c ∧ cnt h k c ≤ (k : Int)
  | 0 => by simp [cnt]
  | k + 1 => by
    have := cnt_le h c k
    simp only [cnt]
    split <;> omega
def wl (F : Nat → Int) : List Int := (List.range 20).map F
theorem wl_length (F : Nat → Int) : (wl F).length = 20 := by unfold wl; rw [List.length_map, List.length_range]
theorem wl_get (F : Nat → Int) {i : Nat} (h : i < 20) : (wl F)[i]? = some (F i) := by
  unfold wl
  rw [List.getElem?_map, List.getElem?_range h]
  rfl
theorem wl_rd (F : Nat → Int) {i : Int} (h0 : 0 ≤ i) (h : i < 20) : rd (wl F) i = F i.toNat := by
  obtain ⟨n, rfl⟩ : ∃ n : Nat, i = (n : Int) := ⟨i.toNat, by omega⟩
  rw [Int.toNat_natCast]
  exact rd_get (wl_get F (by omega))
theorem wl_ext {F G : Nat → Int} (h : ∀ i, i < 20 → F i = G i) : wl F = wl G := by
  unfold wl
  refine List.map_congr_left fun i hi => h i (List.mem_range.mp hi)
theorem wl_set (F : Nat → Int) {j : Nat} (hj : j < 20) (a : Int) : (wl F).set j a = wl (fun i => if i = j then a else F i) := by
  apply List.ext_getElem?
  intro i
  by_cases hi : i < 20
  · rw [wl_get _ hi, List.getElem?_set]
    by_cases e : j = i
    · subst e
      rw [if_pos rfl, if_pos (by rw [wl_length]; exact hj), if_pos rfl]
    · rw [if_neg e, wl_get _ hi, if_neg (fun a => e a.symm)]
  · rw [List.getElem?_eq_none (by rw [List.length_set, wl_length]; omega), List.getElem?_eq_none (by rw [wl_length]; omega)]
def SF (h : List Int) (s : Int) (k : Nat) (i : Nat) : Int :=
  if i < 4 then (if i < k then rd h (i : Int) else 0) else if i < 10 then own h k ((i : Int) - 3) else if i < 14 then 0 else via h s k ((i : Int) - 13)
def PF (h : List Int) (s : Int) (k : Nat) (i : Nat) : Int :=
  if i < 4 then rd h (i : Int) else if i < 10 then own h k ((i : Int) - 3) else if i < 13 then cnt h k ((i : Int) - 10) else if i < 14 then 0 else via h s k ((i : Int) - 13)
def WF (h : List Int) (s : Int) (i : Nat) : Int :=
  if i < 4 then rd h (i : Int) else if i < 10 then own h 4 ((i : Int) - 3) else if i < 13 then cnt h 4 ((i : Int) - 10) else if i < 14 then s else via h s 4 ((i : Int) - 13)
def okVal (v : Int) : Prop := v = 0 ∨ (1 ≤ v ∧ v ≤ 6)
theorem place_facts {v : Int} (h1 : 1 ≤ v) (h6 : v ≤ 6) : spec_OwnerAt.f v = some (3 + v) ∧ impl_OwnerAt.f v = some (3 + v) ∧ spec_ViaAt.f v = some (13 + v) ∧ impl_ViaAt.f v = some (13 + v) ∧ impl_ClassOf.f v = some (v % 3) ∧ spec_ClassOf.f v = some (v % 3) ∧ spec_ValOk.f v = some true := by
  have g1 : v ≥ 1 := h1
  have e1 : wrap64 (3 + v) = 3 + v := w64 (by omega) (by omega)
  have e2 : wrap64 (13 + v) = 13 + v := w64 (by omega) (by omega)
  have e3 : Int.tmod v 3 = v % 3 := Int.tmod_eq_emod_of_nonneg (by omega)
  refine ⟨?_, ?_, ?_, ?_, ?_, ?_, ?_⟩
  · simp only [spec_OwnerAt.f, spec_ValOk.f, spec_l1In.f, g1, h6, if_true, decide_true, Option.bind_some, e1]
  · simp only [impl_OwnerAt.f, impl_ValOk.f, impl_from.f, impl_placed.f, g1, h6, if_true, decide_true, Option.bind_some, e1]
  · simp only [spec_ViaAt.f, spec_ValOk.f, spec_l1In.f, spec_StateAt.f, g1, h6, if_true, decide_true, Option.bind_some, e2]
  · simp only [impl_ViaAt.f, impl_ValOk.f, impl_from.f, impl_StateAt.f, impl_placed.f, g1, h6, if_true, decide_true, Option.bind_some, e2]
  · simp only [impl_ClassOf.f, impl_ValOk.f, impl_from.f, g1, h6, if_true, decide_true, Option.bind_some, e3]
  · simp only [spec_ClassOf.f, spec_ValOk.f, spec_l1In.f, g1, h6, if_true, decide_true, Option.bind_some, e3]
  · simp only [spec_ValOk.f, spec_l1In.f, g1, h6, if_true, decide_true, Option.bind_some]
theorem count_facts {c : Int} (h0 : 0 ≤ c) (h2 : c ≤ 2) : spec_CountAt.f c = some (10 + c) ∧ impl_CountAt.f c = some (10 + c) := by
  have g0 : c ≥ 0 := h0
  have e : wrap64 (10 + c) = 10 + c := w64 (by omega) (by omega)
  constructor
  · simp only [spec_CountAt.f, spec_l1In.f, g0, h2, if_true, decide_true, Option.bind_some, e]
  · simp only [impl_CountAt.f, impl_isClass.f, impl_from.f, impl_placed.f, g0, h2, if_true, decide_true, Option.bind_some, e]
theorem rowAt_fact {k : Nat} (h : k < 4) : spec_RowAt.f (k : Int) = some (k : Int) := by
  have g0 : (k : Int) ≥ 0 := by omega
  have g3 : (k : Int) ≤ 3 := by omega
  simp only [spec_RowAt.f, spec_KeyOk.f, spec_l1In.f, g0, g3, if_true, decide_true, Option.bind_some]
theorem SF_zero {h : List Int} {s : Int} {k : Nat} (hk : k < 4) (hz : rd h (k : Int) = 0) : (wl (SF h s k)).set k 0 = wl (SF h s (k + 1)) := by
  rw [wl_set _ (by omega)]
  refine wl_ext fun i hi => ?_
  simp only [SF, own, via, hz]
  by_cases e : i = k
  · subst e
    simp [hk, hz]
  · rw [if_neg e]
    by_cases h4 : i < 4
    · rw [if_pos h4, if_pos h4]
      by_cases h5 : i < k
      · rw [if_pos h5, if_pos (by omega)]
      · rw [if_neg h5, if_neg (by omega)]
    · rw [if_neg h4, if_neg h4]
      by_cases h10 : i < 10
      · rw [if_pos h10, if_pos h10, if_neg (by omega)]
      · rw [if_neg h10, if_neg h10]
        by_cases h14 : i < 14
        · rw [if_pos h14, if_pos h14]
        · rw [if_neg h14, if_neg h14, if_neg (by omega)]
theorem SF_val {h : List Int} {s : Int} {k : Nat} (hk : k < 4) (h1 : 1 ≤ rd h (k : Int)) (h6 : rd h (k : Int) ≤ 6) :
    (if (k : Int) < s - 1 then (((wl (SF h s k)).set k (rd h (k : Int))).set (3 + rd h (k : Int)).toNat ((k : Int) + 1)).set (13 + rd h (k : Int)).toNat ((k : Int) + 1) else ((wl (SF h s k)).set k (rd h (k : Int))).set (3 + rd h (k : Int)).toNat ((k : Int) + 1)) = wl (SF h s (k + 1)) := by
  generalize hv : rd h (k : Int) = v at h1 h6
  have key : ∀ i, i < 20 → ∀ b : Prop, [Decidable b] → (b ↔ (k : Int) < s - 1) →
      (if b ∧ i = (13 + v).toNat then (k : Int) + 1 else if i = (3 + v).toNat then (k : Int) + 1 else if i = k then v else SF h s k i) = SF h s (k + 1) i := by
    intro i hi b _ hb
    simp only [SF, own, via, hv]
    by_cases h4 : i < 4
    · rw [if_neg (by omega), if_neg (by omega)]
      simp only [h4, if_true]
      by_cases e : i = k
      · subst e; simp [hv]
      · rw [if_neg e]
        by_cases h5 : i < k
        · rw [if_pos h5, if_pos (by omega)]
        · rw [if_neg h5, if_neg (by omega)]
    · simp only [h4, if_false]
      by_cases h10 : i < 10
      · simp only [h10, if_true]
        rw [if_neg (by omega)]
        by_cases e : i = (3 + v).toNat
        · rw [if_pos e, if_pos (by omega)]
        · rw [if_neg e, if_neg (by omega), if_neg (by omega)]
      · simp only [h10, if_false]
        by_cases h14 : i < 14
        · simp only [h14, if_true]
          rw [if_neg (by omega), if_neg (by omega), if_neg (by omega)]
        · simp only [h14, if_false]
          by_cases e : i = (13 + v).toNat
          · by_cases hbb : b
            · rw [if_pos ⟨hbb, e⟩, if_pos ⟨by omega, hb.mp hbb⟩]
            · rw [if_neg (fun a => hbb a.1), if_neg (by omega), if_neg (by omega), if_neg (fun a => hbb (hb.mpr a.2))]
          · rw [if_neg (fun a => e a.2), if_neg (by omega), if_neg (by omega), if_neg (by omega)]
  by_cases hb : (k : Int) < s - 1
  · rw [if_pos hb, wl_set _ (by omega), wl_set _ (by omega), wl_set _ (by omega)]
    refine wl_ext fun i hi => ?_
    have := key i hi True (by simp [hb])
    simp only [true_and] at this
    exact this
  · rw [if_neg hb, wl_set _ (by omega), wl_set _ (by omega)]
    refine wl_ext fun i hi => ?_
    have := key i hi False (by simp [hb])
    simp only [false_and, if_false] at this
    exact this
theorem PF_zero {h : List Int} {s : Int} {k : Nat} (hk : k < 4) (hz : rd h (k : Int) = 0) : wl (PF h s k) = wl (PF h s (k + 1)) := by
  refine wl_ext fun i hi => ?_
  simp only [PF, own, via, cnt, hz]
  by_cases h4 : i < 4
  · simp only [h4, if_true]
  · simp only [h4, if_false]
    by_cases h10 : i < 10
    · simp only [h10, if_true]; rw [if_neg (by omega)]
    · simp only [h10, if_false]
      by_cases h13 : i < 13
      · simp only [h13, if_true]; simp
      · simp only [h13, if_false]
        by_cases h14 : i < 14
        · simp only [h14, if_true]
        · simp only [h14, if_false]; rw [if_neg (by omega)]
theorem PF_val {h : List Int} {s : Int} {k : Nat} (hk : k < 4) (h1 : 1 ≤ rd h (k : Int)) (h6 : rd h (k : Int) ≤ 6) :
    (if (k : Int) < s - 1 then (((wl (PF h s k)).set (3 + rd h (k : Int)).toNat ((k : Int) + 1)).set (10 + rd h (k : Int) % 3).toNat (cnt h k (rd h (k : Int) % 3) + 1)).set (13 + rd h (k : Int)).toNat ((k : Int) + 1) else ((wl (PF h s k)).set (3 + rd h (k : Int)).toNat ((k : Int) + 1)).set (10 + rd h (k : Int) % 3).toNat (cnt h k (rd h (k : Int) % 3) + 1)) = wl (PF h s (k + 1)) := by
  generalize hv : rd h (k : Int) = v at h1 h6
  have key : ∀ i, i < 20 → ∀ b : Prop, [Decidable b] → (b ↔ (k : Int) < s - 1) →
      (if b ∧ i = (13 + v).toNat then (k : Int) + 1 else if i = (10 + v % 3).toNat then cnt h k (v % 3) + 1 else if i = (3 + v).toNat then (k : Int) + 1 else PF h s k i) = PF h s (k + 1) i := by
    intro i hi b _ hb
    simp only [PF, own, via, cnt, hv]
    by_cases h4 : i < 4
    · rw [if_neg (by omega), if_neg (by omega), if_neg (by omega)]
      simp only [h4, if_true]
    · simp only [h4, if_false]
      by_cases h10 : i < 10
      · simp only [h10, if_true]
        rw [if_neg (by omega), if_neg (by omega)]
        by_cases e : i = (3 + v).toNat
        · rw [if_pos e, if_pos (by omega)]
        · rw [if_neg e, if_neg (by omega)]
      · simp only [h10, if_false]
        by_cases h13 : i < 13
        · simp only [h13, if_true]
          rw [if_neg (by omega)]
          by_cases e : i = (10 + v % 3).toNat
          · have e2 : (i : Int) - 10 = v % 3 := by omega
            rw [if_pos e, e2, if_pos ⟨by omega, rfl⟩]
          · rw [if_neg e, if_neg (by omega), if_neg (by omega)]
            omega
        · simp only [h13, if_false]
          by_cases h14 : i < 14
          · simp only [h14, if_true]
            rw [if_neg (by omega), if_neg (by omega), if_neg (by omega)]
          · simp only [h14, if_false]
            by_cases e : i = (13 + v).toNat
            · by_cases hbb : b
              · rw [if_pos ⟨hbb, e⟩, if_pos ⟨by omega, hb.mp hbb⟩]
              · rw [if_neg (fun a => hbb a.1), if_neg (by omega), if_neg (by omega), if_neg (fun a => hbb (hb.mpr a.2))]
            · rw [if_neg (fun a => e a.2), if_neg (by omega), if_neg (by omega), if_neg (by omega)]
  by_cases hb : (k : Int) < s - 1
  · rw [if_pos hb, wl_set _ (by omega), wl_set _ (by omega), wl_set _ (by omega)]
    refine wl_ext fun i hi => ?_
    have := key i hi True (by simp [hb])
    simp only [true_and] at this
    exact this
  · rw [if_neg hb, wl_set _ (by omega), wl_set _ (by omega)]
    refine wl_ext fun i hi => ?_
    have := key i hi False (by simp [hb])
    simp only [false_and, if_false] at this
    exact this
theorem howMany_ev (h : List Int) (s c : Int) (hl : h.length = 4) (hv : ∀ i : Nat, i < 4 → okVal (rd h (i : Int))) : Ev (fun k => spec_HowMany.f k h s c) (cnt h 4 c) := by
  simp only [spec_HowMany.f]
  refine (back (n := 4) (Q := fun i => Ev (fun k => spec_HowMany.l0 k c (cnt h i c) (i : Int) h s) (cnt h 4 c)) ?_ (fun i hi ih => ?_) 0 (Nat.zero_le _))
  · refine Ev.shift ?_
    have c1 : ¬ (((4 : Nat) : Int) < (h.length : Int)) := by omega
    simp only [spec_HowMany.l0, c1, if_false]
    exact Ev.now _
  · have c0 : (0 : Int) ≤ (i : Int) := by omega
    have c1 : (i : Int) < (h.length : Int) := by omega
    have hb := cnt_le h c i
    refine Ev.shift ?_
    simp only [cnt] at ih
    simp only [spec_HowMany.l0, c0, c1, if_true, succ64 hi (by omega)]
    rcases hv i hi with hz | ⟨h1, h6⟩
    · have hn : spec_ValOk.f (rd h (i : Int)) = some false := by rw [hz]; rfl
      simp only [hn, Option.bind_some, Bool.false_eq_true, if_false, spec_l1Bit.f]
      rw [if_neg (by rw [hz]; simp)] at ih
      rw [w64 (n := cnt h i c + 0) (by omega) (by omega)]
      exact ih
    · obtain ⟨_, _, _, _, _, f6, f7⟩ := place_facts h1 h6
      simp only [f6, f7, Option.bind_some, if_true, spec_l1Bit.f]
      by_cases e : rd h (i : Int) % 3 = c
      · rw [if_pos ⟨by omega, e⟩] at ih
        simp only [e, beq_self_eq_true, if_true, Option.bind_some]
        rw [w64 (n := cnt h i c + 1) (by omega) (by omega)]
        exact ih
      · rw [if_neg (fun a => e a.2)] at ih
        simp only [beq_iff_eq, e, if_false, Option.bind_some]
        rw [w64 (n := cnt h i c + 0) (by omega) (by omega)]
        exact ih
noncomputable def wds (h : List Int) (s : Int) : List Int := if okB h 0 s = true then wl (WF h s) else []
theorem spec_WordsOf_ev (h : List Int) (s : Int) (hl : h.length ≤ 1048576) : Ev (fun k => spec_WordsOf.f k h s) (wds h s) := by
  simp only [spec_WordsOf.f, wds]
  refine Ev.bind (spec_RowsOk_ev h s hl) ?_
  by_cases ok : okB h 0 s = true
  · obtain ⟨h4, s0, s5, hv⟩ := okB_elim ok
    simp only [ok, if_true, show (20 : Nat) ≤ 35184372088832 by decide]
    have hrep : List.replicate 20 (0 : Int) = wl (SF h s 0) := by
      have : wl (SF h s 0) = wl (fun _ => 0) := wl_ext fun i hi => by
        simp only [SF, own, via, Nat.not_lt_zero, if_false]
        split <;> (try rfl) ; split <;> (try rfl) ; split <;> rfl
      rw [this]; rfl
    rw [hrep]
    refine (back (n := 4) (Q := fun k => Ev (fun n => spec_WordsOf.l0 n (wl (SF h s k)) (k : Int) h s) (wl (WF h s))) ?_ (fun k hk ih => ?_) 0 (Nat.zero_le _))
    · refine Ev.shift ?_
      simp only [spec_WordsOf.l0, show ¬ (((4 : Nat) : Int) < 4) by decide, if_false]
      have hc : ∀ (c : Nat) (F : Nat → Int), c < 3 → Ev (fun n => spec_WordsOf.l1 n (wl (fun i => if i = 10 + c then cnt h 4 (c : Int) else F i)) ((c + 1 : Nat) : Int) h s) (wl (WF h s)) → Ev (fun n => spec_WordsOf.l1 n (wl F) (c : Int) h s) (wl (WF h s)) := by
        intro c F hc hn
        obtain ⟨f1, _⟩ := count_facts (c := (c : Int)) (by omega) (by omega)
        refine Ev.shift ?_
        have c3 : (c : Int) < 3 := by omega
        simp only [spec_WordsOf.l1, c3, if_true, f1, Option.bind_some]
        refine Ev.bind (howMany_ev h s (c : Int) h4 hv) ?_
        have c1 : (0 : Int) ≤ 10 + (c : Int) := by omega
        have c2 : 10 + (c : Int) < ((wl F).length : Int) := by rw [wl_length]; omega
        have e : (10 + (c : Int)).toNat = 10 + c := by omega
        simp only [c1, c2, if_true, e, wl_set F (show 10 + c < 20 by omega), succ64 hc (by omega)]
        exact hn
      refine hc 0 _ (by decide) (hc 1 _ (by decide) (hc 2 _ (by decide) (Ev.shift ?_)))
      simp only [spec_WordsOf.l1, show ¬ (((2 + 1 : Nat) : Int) < 3) by decide, if_false, spec_StateAt.f, Option.bind_some, wl_length, show (0 : Int) ≤ 13 by decide, show (13 : Int) < ((20 : Nat) : Int) by decide, if_true, show (13 : Int).toNat = 13 from rfl, wl_set _ (show 13 < 20 by decide)]
      refine Ev.val (wl_ext fun i hi => ?_)
      simp only [SF, WF]
      by_cases i4 : i < 4
      · rw [if_neg (by omega), if_neg (by omega), if_neg (by omega), if_neg (by omega)]
        simp only [i4, if_true]
      · by_cases i10 : i < 10
        · rw [if_neg (by omega), if_neg (by omega), if_neg (by omega), if_neg (by omega)]
          simp only [i4, i10, if_true, if_false]
        · by_cases i13 : i = 13
          · subst i13; simp
          · by_cases i10' : i = 10
            · subst i10'; simp
            · by_cases i11 : i = 11
              · subst i11; simp
              · by_cases i12 : i = 12
                · subst i12; simp
                · have : ¬ i < 14 := by omega
                  have : ¬ i < 13 := by omega
                  simp [*]
    · have c0 : (0 : Int) ≤ (k : Int) := by omega
      have c4 : (k : Int) < 4 := by omega
      have c1 : (k : Int) < (h.length : Int) := by omega
      have c2 : (k : Int) < ((wl (SF h s k)).length : Int) := by rw [wl_length]; omega
      refine Ev.shift ?_
      simp only [spec_WordsOf.l0, c0, c4, c1, c2, if_true, rowAt_fact hk, Option.bind_some, Int.toNat_natCast, succ64 hk (by omega)]
      rcases hv k hk with hz | ⟨h1, h6⟩
      · simp only [hz, if_true]
        rw [SF_zero hk hz]
        exact ih
      · obtain ⟨f1, _, f3, _, _, _, _⟩ := place_facts h1 h6
        have hn : ¬ rd h (k : Int) = 0 := by omega
        have e1 : (k : Int) + 1 = ((k + 1 : Nat) : Int) := by omega
        have ws : wrap64 (s - 1) = s - 1 := w64 (by omega) (by omega)
        have d0 : 0 ≤ 3 + rd h (k : Int) := by omega
        have d1 : 3 + rd h (k : Int) < (((20 : Nat)) : Int) := by omega
        have d2 : 0 ≤ 13 + rd h (k : Int) := by omega
        have d3 : 13 + rd h (k : Int) < (((20 : Nat)) : Int) := by omega
        have hS := SF_val (h := h) (s := s) hk h1 h6
        simp only [hn, if_false, f1, f3, Option.bind_some, wl_length, d0, d1, d2, d3, if_true, ws]
        by_cases hb : (k : Int) < s - 1
        · rw [if_pos hb] at hS
          simp only [hb, if_true, ← e1]
          rw [hS]
          simp only [e1]
          exact ih
        · rw [if_neg hb] at hS
          simp only [hb, if_false, ← e1]
          rw [hS]
          simp only [e1]
          exact ih
  · simp only [ok, if_false]
    exact Ev.now _
theorem impl_WordsOf_ev (h : List Int) (s : Int) (hl : h.length ≤ 1048576) : Ev (fun k => impl_WordsOf.f k h s) (wds h s) := by
  simp only [impl_WordsOf.f, wds]
  refine Ev.bind (impl_RowsOk_ev h s hl) ?_
  by_cases ok : okB h 0 s = true
  · obtain ⟨h4, s0, s5, hv⟩ := okB_elim ok
    simp only [ok, if_true, show (20 : Nat) ≤ 35184372088832 by decide, copy_int.f, Option.bind_some]
    have hrep : h.take (Nat.min h.length (List.replicate 20 (0 : Int)).length) ++ (List.replicate 20 (0 : Int)).drop (Nat.min h.length (List.replicate 20 (0 : Int)).length) = wl (PF h s 0) := by
      match h, h4 with
      | [a, b, c, d], _ => rfl
    rw [hrep]
    have l4 : (h.length : Int) = ((4 : Nat) : Int) := by omega
    rw [l4]
    refine (back (n := 4) (Q := fun k => Ev (fun n => impl_WordsOf.l0 n (wl (PF h s k)) h ((4 : Nat) : Int) (k : Int) h s) (wl (WF h s))) ?_ (fun k hk ih => ?_) 0 (Nat.zero_le _))
    · refine Ev.shift ?_
      simp only [impl_WordsOf.l0, Int.lt_irrefl, if_false, impl_StateAt.f, Option.bind_some, wl_length, show (0 : Int) ≤ 13 by decide, show (13 : Int) < ((20 : Nat) : Int) by decide, if_true, show (13 : Int).toNat = 13 from rfl, wl_set _ (show 13 < 20 by decide)]
      refine Ev.val (wl_ext fun i hi => ?_)
      simp only [PF, WF]
      by_cases i13 : i = 13
      · subst i13; simp
      · rw [if_neg i13]
        by_cases i14 : i < 14
        · have : i < 13 := by omega
          simp only [this, i14, if_true]
        · simp only [i14, if_false]
    · have c0 : (0 : Int) ≤ (k : Int) := by omega
      have c4 : (k : Int) < ((4 : Nat) : Int) := by omega
      have c1 : (k : Int) < (h.length : Int) := by omega
      refine Ev.shift ?_
      simp only [impl_WordsOf.l0, c0, c4, c1, if_true, succ64 hk (by omega)]
      rcases hv k hk with hz | ⟨h1, h6⟩
      · simp only [hz, if_true]
        rw [PF_zero hk hz]
        exact ih
      · obtain ⟨_, f2, _, f4, f5, _, _⟩ := place_facts h1 h6
        obtain ⟨_, g2⟩ := count_facts (c := rd h (k : Int) % 3) (by omega) (by omega)
        have hn : ¬ rd h (k : Int) = 0 := by omega
        have e1 : (k : Int) + 1 = ((k + 1 : Nat) : Int) := by omega
        have ws : wrap64 (s - 1) = s - 1 := w64 (by omega) (by omega)
        have d0 : 0 ≤ 3 + rd h (k : Int) := by omega
        have d1 : 3 + rd h (k : Int) < (((20 : Nat)) : Int) := by omega
        have d2 : 0 ≤ 13 + rd h (k : Int) := by omega
        have d3 : 13 + rd h (k : Int) < (((20 : Nat)) : Int) := by omega
        have d4 : 0 ≤ 10 + rd h (k : Int) % 3 := by omega
        have d5 : 10 + rd h (k : Int) % 3 < (((20 : Nat)) : Int) := by omega
        have hS := PF_val (h := h) (s := s) hk h1 h6
        have hcb := cnt_le h (rd h (k : Int) % 3) k
        have hrd : rd ((wl (PF h s k)).set (3 + rd h (k : Int)).toNat ((k : Int) + 1)) (10 + rd h (k : Int) % 3) = cnt h k (rd h (k : Int) % 3) := by
          rw [wl_set _ (by omega), wl_rd _ (by omega) (by omega), if_neg (by omega)]
          simp only [PF]
          rw [if_neg (by omega), if_neg (by omega), if_pos (by omega)]
          congr 1
          omega
        have hw : wrap64 (cnt h k (rd h (k : Int) % 3) + 1) = cnt h k (rd h (k : Int) % 3) + 1 := w64 (by omega) (by omega)
        simp only [hn, if_false, f2, f4, f5, g2, Option.bind_some, wl_length, d0, d1, d2, d3, d4, d5, if_true, ws, ← e1, hrd, hw]
        by_cases hb : (k : Int) < s - 1
        · rw [if_pos hb] at hS
          simp only [hb, if_true]
          rw [hS]
          simp only [e1]
          exact ih
        · rw [if_neg hb] at hS
          simp only [hb, if_false]
          rw [hS]
          simp only [e1]
          exact ih
  · simp only [ok, if_false]
    exact Ev.now _
theorem wds_len (h : List Int) (s : Int) : (wds h s).length = 20 ∨ wds h s = [] := by
  unfold wds
  split
  · left; exact wl_length _
  · right; rfl
end Go.Proofs.Yteamagejhbkhnaa.P
end
section
set_option linter.unusedSimpArgs false
set_option linter.unusedVariables false
namespace Go.Proofs.Yteamagejhbkhnaa.P
open Go.RowKit Go.Proofs.YteamagejhbkhnaaW.PrintWords Go.Proofs.YteamagejhbkhnaaW.PrintLast Go.Proofs.YteamagejhbkhnaaZ
theorem rdI_w {l : List Int} {i : Nat} (h : i < l.length) : rd l (i : Int) = l[i] := rd_get (List.getElem?_eq_getElem h)
theorem drop_eq_iff {x y : List Int} {i : Nat} (hx : i < x.length) (hy : i < y.length) : x.drop i = y.drop i ↔ (rd x (i : Int) = rd y (i : Int) ∧ x.drop (i + 1) = y.drop (i + 1)) := by
  rw [List.drop_eq_getElem_cons hx, List.drop_eq_getElem_cons hy, rdI_w hx, rdI_w hy]
  exact List.cons_eq_cons
theorem equal_ev (x y : List Int) (hx : x.length ≤ 9223372036854775807) : Ev (fun k => slices_Equal_int_int.f k x y) (decide (x = y)) := by
  simp only [slices_Equal_int_int.f]
  by_cases h : (x.length : Int) = (y.length : Int)
  · have hl : x.length = y.length := by omega
    refine Ev.pos h ?_
    have key : ∀ i : Nat, i ≤ x.length → ∃ r : Bool, (r = true ↔ x.drop i = y.drop i) ∧ Ev (fun k => slices_Equal_int_int.l0 k x y (x.length : Int) (i : Int)) r := by
      refine back ?_ fun i hi ih => ?_
      · refine ⟨true, ?_, Ev.shift ?_⟩
        · rw [List.drop_length, List.drop_eq_nil_of_le (by omega)]; simp
        · simp only [slices_Equal_int_int.l0, Int.lt_irrefl, if_false]
          exact Ev.now _
      · obtain ⟨r, h1, h2⟩ := ih
        have c0 : (0 : Int) ≤ (i : Int) := by omega
        have c1 : (i : Int) < (x.length : Int) := by omega
        have c2 : (i : Int) < (y.length : Int) := by omega
        have hd := drop_eq_iff (x := x) (y := y) hi (by omega)
        by_cases he : rd x (i : Int) = rd y (i : Int)
        · refine ⟨r, by rw [h1, hd]; exact ⟨fun a => ⟨he, a⟩, fun a => a.2⟩, Ev.shift ?_⟩
          simp only [slices_Equal_int_int.l0, c0, c1, c2, if_true, succ64 hi hx]
          exact Ev.pos he h2
        · refine ⟨false, by rw [hd]; exact ⟨fun a => Bool.noConfusion a, fun a => absurd a.1 he⟩, Ev.shift ?_⟩
          simp only [slices_Equal_int_int.l0, c0, c1, c2, if_true]
          exact Ev.neg he (Ev.now _)
    obtain ⟨r, h1, h2⟩ := key 0 (Nat.zero_le _)
    refine h2.to ?_
    rw [List.drop_zero, List.drop_zero] at h1
    rw [Bool.eq_iff_iff, h1, decide_eq_true_iff]
  · refine Ev.neg h (Ev.val ?_)
    rw [eq_comm, decide_eq_false_iff_not]
    intro e
    rw [e] at h
    exact h rfl
noncomputable def whole (l : List Int) : Bool := okB (rin l).1 0 (rin l).2 && decide (wds (rin l).1 (rin l).2 = l)
theorem rin_small (l : List Int) : (rin l).1.length ≤ 1048576 := by
  rcases rin_len l with e | e
  · omega
  · rw [e]; exact Nat.zero_le _
theorem wds_small (h : List Int) (s : Int) : (wds h s).length ≤ 20 := by
  rcases wds_len h s with e | e
  · omega
  · rw [e]; exact Nat.zero_le _
theorem impl_Whole_ev (l : List Int) (hl : l.length ≤ 1048576) : Ev (fun k => impl_Whole.f k l) (whole l) := by
  simp only [impl_Whole.f, impl_RowsIn_eq, Option.bind_some, whole]
  refine Ev.bind (impl_RowsOk_ev _ _ (rin_small l)) ?_
  cases ok : okB (rin l).1 0 (rin l).2
  · simp only [Bool.false_eq_true, if_false, Bool.false_and]
    exact Ev.now _
  · simp only [if_true, Bool.true_and]
    have hw := wds_small (rin l).1 (rin l).2
    exact Ev.bind (impl_WordsOf_ev _ _ (rin_small l)) (Ev.bind (equal_ev _ l (by omega)) (Ev.now _))
theorem rin_wds {l : List Int} (h : wds (rin l).1 (rin l).2 ≠ []) : l.length = 20 := by
  apply Classical.byContradiction
  intro hn
  have e : rin l = ([], 0) := if_neg hn
  rw [e] at h
  apply h
  unfold wds
  refine if_neg fun a => ?_
  obtain ⟨h4, _⟩ := okB_elim a
  cases h4
theorem whole_len {l : List Int} (h : whole l = true) : l.length = 20 := by
  unfold whole at h
  simp only [Bool.and_eq_true, decide_eq_true_eq] at h
  refine rin_wds (l := l) ?_
  intro e
  unfold wds at e
  rw [if_pos h.1] at e
  have e2 := wl_length (WF (rin l).1 (rin l).2)
  rw [e] at e2
  cases e2
noncomputable def foundK (l : List Int) (a : Int) : Int × Bool := if whole l = true then (if a < 0 then (0, false) else if rd l a = 0 then (0, false) else (wrap64 (rd l a - 1), true)) else (0, false)
theorem impl_found_ev (l : List Int) (a : Int) (hl : l.length ≤ 1048576) (ha : a < 20) : Ev (fun k => impl_found.f k l a) (foundK l a) := by
  simp only [impl_found.f, foundK]
  refine Ev.bind (impl_Whole_ev l hl) ?_
  by_cases h : whole l = true
  · have h20 := whole_len h
    simp only [h, if_true]
    by_cases a0 : a < 0
    · simp only [a0, if_true]; exact Ev.now _
    · have b0 : 0 ≤ a := by omega
      have b1 : a < (l.length : Int) := by omega
      simp only [a0, b0, b1, if_true, if_false]
      by_cases z : rd l a = 0
      · simp only [z, if_true]; exact Ev.now _
      · simp only [z, if_false]; exact Ev.now _
  · simp only [h, if_false]; exact Ev.now _
end Go.Proofs.Yteamagejhbkhnaa.P
end
section
set_option linter.unusedSimpArgs false
set_option linter.unusedVariables false
namespace Go.Proofs.Yteamagejhbkhnaa.P
open Go.RowKit Go.Proofs.YteamagejhbkhnaaW.PrintWords Go.Proofs.YteamagejhbkhnaaW.PrintLast Go.Proofs.YteamagejhbkhnaaZ
def okC (b : List Int) (i : Int) : Prop := b.length ≤ 1048576 ∧ 0 ≤ i ∧ i ≤ (b.length : Int)
theorem and255_all (n : Int) : Go.bits .and .i64 n 255 = n % 256 := by
  have h255 : (BitVec.ofInt 64 255).toNat = 2 ^ 8 - 1 := by decide
  have key : (BitVec.ofInt 64 n &&& BitVec.ofInt 64 255).toNat = (n % ((2 ^ 64 : Nat) : Int)).toNat % 2 ^ 8 := by
    rw [BitVec.toNat_and, BitVec.toNat_ofInt, h255, Nat.and_two_pow_sub_one_eq_mod]
  show IntKind.i64.wrap ((BitVec.ofInt 64 n &&& BitVec.ofInt 64 255).toNat : Nat) = n % 256
  rw [key, IntKind.wrap_i64]
  omega
theorem l1Byte_got {b : List Int} {i : Int} (h : okC b i) (c : Int) : Got (spec_l1Byte.f b i c) (fun r => 0 ≤ r.1 ∧ r.1 ≤ 255 ∧ okC b r.2.1) := by
  obtain ⟨h0, h1, h2⟩ := h
  simp only [spec_l1Byte.f, and255_all]
  refine Got.ite (fun h3 => Got.pos h1 (Got.now ⟨?_, ?_, h0, ?_, ?_⟩)) (fun h3 => Got.now ⟨?_, ?_, h0, h1, h2⟩)
  · show 0 ≤ _ % (256 : Int); omega
  · show _ % (256 : Int) ≤ 255; omega
  · show 0 ≤ wrap64 (i + 1); rw [w64 (by omega) (by omega)]; omega
  · show wrap64 (i + 1) ≤ _; rw [w64 (by omega) (by omega)]; omega
  · show 0 ≤ _ % (256 : Int); omega
  · show _ % (256 : Int) ≤ 255; omega
theorem l1Below_got {b : List Int} {i : Int} (h : okC b i) (c n : Int) : Got (spec_l1Below.f b i c n) (fun r => 0 ≤ r.1 ∧ (0 < n → r.1 < n) ∧ (n ≤ 0 → r.1 = 0) ∧ okC b r.2.1) := by
  simp only [spec_l1Below.f]
  refine Got.ite (fun h1 => Got.now ⟨Int.le_refl 0, fun h2 => by omega, fun _ => rfl, h⟩) (fun h1 => ?_)
  have hn : ¬ n = 0 := by omega
  refine Got.ite (fun h2 => ?_) (fun h2 => ?_)
  · refine (l1Byte_got h c).bind (fun r hr => Got.neg hn (Got.now ⟨?_, fun _ => ?_, fun _ => by omega, hr.2.2⟩))
    · exact Int.tmod_nonneg _ hr.1
    · exact Int.tmod_lt_of_pos _ (by omega)
  · refine (l1Byte_got h c).bind (fun r1 h1 => (l1Byte_got h1.2.2 _).bind (fun r2 h2 => (l1Byte_got h2.2.2 _).bind (fun r3 h3 => (l1Byte_got h3.2.2 _).bind (fun r4 h4 => Got.neg hn (Got.now ⟨?_, fun _ => ?_, fun _ => by omega, h4.2.2⟩)))))
    · refine Int.tmod_nonneg _ ?_
      have e1 : wrap64 (r1.1 * 16777216) = r1.1 * 16777216 := w64 (by omega) (by omega)
      have e2 : wrap64 (r2.1 * 65536) = r2.1 * 65536 := w64 (by omega) (by omega)
      have e3 : wrap64 (r3.1 * 256) = r3.1 * 256 := w64 (by omega) (by omega)
      rw [e1, e2, e3, w64 (n := r1.1 * 16777216 + r2.1 * 65536) (by omega) (by omega), w64 (n := r1.1 * 16777216 + r2.1 * 65536 + r3.1 * 256) (by omega) (by omega), w64 (by omega) (by omega)]
      omega
    · exact Int.tmod_lt_of_pos _ (by omega)
theorem l1New_evg (b : List Int) (hb : b.length ≤ 1048576) : EvG (fun k => spec_l1New.f k b) (fun r => r.1 = b ∧ r.2.1 = 0) := by
  have key : ∀ i : Nat, i ≤ b.length → ∀ h : Int, EvG (fun k => spec_l1New.l0 k b h (i : Int)) (fun r => r.1 = b ∧ r.2.1 = 0) := by
    refine back ?_ fun i hi ih => ?_
    · intro h
      refine EvG.shift ?_
      simp only [spec_l1New.l0, Int.lt_irrefl, if_false]
      exact EvG.now ⟨rfl, rfl⟩
    · intro h
      have c0 : (0 : Int) ≤ (i : Int) := by omega
      have c1 : (i : Int) < (b.length : Int) := by omega
      refine EvG.shift ?_
      simp only [spec_l1New.l0, c0, c1, if_true, succ64 hi (by omega)]
      refine EvG.ite (fun _ => ih _) (fun _ => EvG.now ⟨rfl, rfl⟩)
  simp only [spec_l1New.f]
  exact key 0 (Nat.zero_le _) _
theorem okC_start {b : List Int} (hb : b.length ≤ 1048576) : okC b 0 := ⟨hb, Int.le_refl _, by omega⟩
end Go.Proofs.Yteamagejhbkhnaa.P
end
section
set_option linter.unusedSimpArgs false
set_option linter.unusedVariables false
namespace Go.Proofs.Yteamagejhbkhnaa.P
open Go.RowKit Go.Proofs.YteamagejhbkhnaaW.PrintWords Go.Proofs.YteamagejhbkhnaaW.PrintLast Go.Proofs.YteamagejhbkhnaaZ
theorem l1PickInt_got {b : List Int} {i : Int} (h : okC b i) (c : Int) (l : List Int) (hl : l ≠ []) : Got (spec_l1PickInt.f b i c l) (fun r => r.1 ∈ l ∧ okC b r.2.1) := by
  have hp := List.length_pos_iff.mpr hl
  simp only [spec_l1PickInt.f]
  refine (l1Below_got h c _).bind (fun r hr => Got.pos hr.1 (Got.pos (hr.2.1 (by omega)) (Got.now ⟨?_, hr.2.2.2⟩)))
  have h1 := hr.1
  have h2 := hr.2.1 (by omega)
  obtain ⟨n, hn⟩ : ∃ n : Nat, r.1 = (n : Int) := ⟨r.1.toNat, by omega⟩
  have hlt : n < l.length := by omega
  show rd l r.1 ∈ l
  rw [hn, rd_get (List.getElem?_eq_getElem hlt)]
  exact List.getElem_mem hlt
end Go.Proofs.Yteamagejhbkhnaa.P
end
section
set_option linter.unusedSimpArgs false
set_option linter.unusedVariables false
namespace Go.Proofs.Yteamagejhbkhnaa.P
open Go.RowKit Go.Proofs.YteamagejhbkhnaaW.PrintWords Go.Proofs.YteamagejhbkhnaaW.PrintLast Go.Proofs.YteamagejhbkhnaaZ
theorem specKey_evg (h : List Int) (hl : h.length ≤ 1048576) (s v : Int) : EvG (fun k => spec_KeyOf.f k h s v) (fun _ => True) := by
  obtain ⟨q, hq, _⟩ := key_ev h (by omega) s v 0 (Nat.zero_le _)
  exact EvG.of_ev hq trivial
theorem l3DrawRight_evg {b : List Int} {i : Int} (h : okC b i) (c : Int) : EvG (fun k => spec_l3DrawRight.f k b i c) (fun r => r.1.length = 4 ∧ okC b r.2.2.1) := by
  have key : ∀ (n x : Nat) (hd : List Int) (s i c : Int), x + n = 4 → hd.length = 4 → okC b i → EvG (fun k => spec_l3DrawRight.l0 k (x : Int) b i c hd s) (fun r => r.1.length = 4 ∧ okC b r.2.2.1) := by
    intro n
    induction n with
    | zero =>
      intro x hd s i c hx hh hc
      refine EvG.shift ?_
      simp only [spec_l3DrawRight.l0]
      refine EvG.neg (by omega) ?_
      exact EvG.bind (EvG.of_got (l1PickInt_got hc c _ (by simp))) (fun r hr => EvG.now ⟨hh, hr.2⟩)
    | succ n ih =>
      intro x hd s i c hx hh hc
      refine EvG.shift ?_
      simp only [spec_l3DrawRight.l0]
      refine EvG.pos (by omega) ?_
      have e : wrap64 ((x : Int) + 1) = ((x + 1 : Nat) : Int) := by rw [w64 (by omega) (by omega)]; omega
      rw [e]
      refine EvG.bind (EvG.of_got (l1Below_got hc c 7)) (fun r hr => EvG.bind (specKey_evg hd (by omega) s r.1) (fun t _ => ?_))
      refine EvG.ite (fun _ => EvG.pos (by omega) (EvG.pos (by omega) ?_)) (fun _ => ?_)
      · exact ih (x + 1) _ s _ _ (by omega) (by rw [List.length_set]; exact hh) hr.2.2.2
      · exact ih (x + 1) _ s _ _ (by omega) hh hr.2.2.2
  simp only [spec_l3DrawRight.f, spec_RowsNew.f, show (4 : Nat) ≤ 35184372088832 by decide, if_true, Option.bind_some]
  exact key 4 0 _ _ i c rfl List.length_replicate h
theorem l3Draw_evg {b : List Int} {i : Int} (h : okC b i) (c : Int) : EvG (fun k => spec_l3Draw.f k b i c) (fun r => r.1.length ≤ 4 ∧ okC b r.2.2.1) := by
  simp only [spec_l3Draw.f]
  refine EvG.bind (l3DrawRight_evg h c) (fun r hr => EvG.bind (EvG.of_got (l1Below_got hr.2 _ 8)) (fun d hd => ?_))
  have h4 := hr.1
  refine EvG.ite (fun _ => ?_) (fun _ => EvG.ite (fun _ => ?_) (fun _ => EvG.ite (fun _ => ?_) (fun _ => EvG.ite (fun _ => ?_) (fun _ => ?_))))
  · exact EvG.bind (EvG.of_got (l1PickInt_got hd.2.2.2 _ _ (by simp))) (fun t ht => EvG.pos (by omega) (EvG.now ⟨by show (r.1.set _ _).length ≤ 4; rw [List.length_set]; omega, ht.2⟩))
  · exact EvG.pos (by omega) (EvG.pos (by omega) (EvG.now ⟨by show ((r.1.set _ _).set _ _).length ≤ 4; rw [List.length_set, List.length_set]; omega, hd.2.2.2⟩))
  · exact EvG.bind (EvG.of_got (l1PickInt_got hd.2.2.2 _ _ (by simp))) (fun t ht => EvG.now ⟨by show r.1.length ≤ 4; omega, ht.2⟩)
  · exact EvG.pos (by omega) (EvG.now ⟨by show (r.1.take _).length ≤ 4; rw [List.length_take]; omega, hd.2.2.2⟩)
  · exact EvG.now ⟨by show r.1.length ≤ 4; omega, hd.2.2.2⟩
end Go.Proofs.Yteamagejhbkhnaa.P
end
section
set_option linter.unusedSimpArgs false
set_option linter.unusedVariables false
namespace Go.Proofs.Yteamagejhbkhnaa.P
open Go.RowKit Go.Proofs.YteamagejhbkhnaaW.PrintWords Go.Proofs.YteamagejhbkhnaaW.PrintLast Go.Proofs.YteamagejhbkhnaaZ
theorem keyBoth (h : List Int) (hl : h.length ≤ 1048576) (s v : Int) : ∃ r : Int, Ev (fun k => spec_KeyOf.f k h s v) r ∧ Ev (fun k => impl_KeyOf.f k h s v) r := by
  have key : ∀ p : Nat, p ≤ h.length → ∃ r : Int, Ev (fun k => spec_KeyOf.l0 k v (p : Int) h s) r ∧ Ev (fun k => slices_Index_int_int.l0 k h v (h.length : Int) (p : Int)) r := by
    refine back ?_ fun p hp ih => ?_
    · refine ⟨-1, Ev.shift ?_, Ev.shift ?_⟩
      · simp only [spec_KeyOf.l0, Int.lt_irrefl, if_false]; exact Ev.now _
      · simp only [slices_Index_int_int.l0, Int.lt_irrefl, if_false]; exact Ev.now _
    · have c0 : (0 : Int) ≤ (p : Int) := by omega
      have c1 : (p : Int) < (h.length : Int) := by omega
      by_cases e : rd h (p : Int) = v
      · refine ⟨(p : Int), Ev.shift ?_, Ev.shift ?_⟩
        · simp only [spec_KeyOf.l0, c0, c1, e, if_true]; exact Ev.now _
        · simp only [slices_Index_int_int.l0, c0, c1, if_true]; exact Ev.pos e.symm (Ev.now _)
      · obtain ⟨r, h1, h2⟩ := ih
        refine ⟨r, Ev.shift ?_, Ev.shift ?_⟩
        · simp only [spec_KeyOf.l0, c0, c1, e, if_true, if_false, succ64 hp (by omega : h.length ≤ 9223372036854775807)]; exact h1
        · simp only [slices_Index_int_int.l0, c0, c1, if_true, succ64 hp (by omega : h.length ≤ 9223372036854775807)]; exact Ev.neg (fun a => e a.symm) h2
  obtain ⟨r, h1, h2⟩ := key 0 (Nat.zero_le _)
  refine ⟨r, h1, ?_⟩
  simp only [impl_KeyOf.f, slices_Index_int_int.f]
  exact Ev.bind h2 (Ev.now _)
theorem valk (v : Int) : ∃ b : Bool, spec_ValOk.f v = some b ∧ impl_ValOk.f v = some b ∧ (b = true → 1 ≤ v ∧ v ≤ 6) := by
  simp only [spec_ValOk.f, spec_l1In.f, impl_ValOk.f, impl_from.f, Option.bind_some]
  by_cases h1 : v ≥ 1
  · refine ⟨decide (v ≤ 6), ?_, ?_, fun a => ⟨h1, of_decide_eq_true a⟩⟩
    · simp only [h1, if_true, Option.bind_some]
    · simp only [h1, if_true, Option.bind_some]
  · refine ⟨false, ?_, ?_, fun a => absurd a (by decide)⟩
    · simp only [h1, if_false, Option.bind_some]
    · simp only [h1, if_false, Option.bind_some]
theorem manyBoth (h : List Int) (hl : h.length ≤ 1048576) (s c : Int) : ∃ r : Int, Ev (fun k => spec_HowMany.f k h s c) r ∧ Ev (fun k => impl_HowMany.f k h s c) r := by
  have key : ∀ p : Nat, p ≤ h.length → ∀ n : Int, 0 ≤ n → n ≤ (p : Int) → ∃ r : Int, Ev (fun k => spec_HowMany.l0 k c n (p : Int) h s) r ∧ Ev (fun k => impl_HowMany.l0 k c n h (h.length : Int) (p : Int)) r := by
    refine back ?_ fun p hp ih => ?_
    · intro n h0 h1
      refine ⟨n, Ev.shift ?_, Ev.shift ?_⟩
      · simp only [spec_HowMany.l0, Int.lt_irrefl, if_false]; exact Ev.now _
      · simp only [impl_HowMany.l0, Int.lt_irrefl, if_false]; exact Ev.now _
    · intro n h0 h1
      have c0 : (0 : Int) ≤ (p : Int) := by omega
      have c1 : (p : Int) < (h.length : Int) := by omega
      have e0 : wrap64 (n + 0) = n := by rw [w64 (by omega) (by omega)]; omega
      have e1 : wrap64 (n + 1) = n + 1 := w64 (by omega) (by omega)
      obtain ⟨r0, a0, b0⟩ := ih n h0 (by omega)
      obtain ⟨r1, a1, b1⟩ := ih (n + 1) (by omega) (by omega)
      obtain ⟨b, v1, v2, v3⟩ := valk (rd h (p : Int))
      cases b
      · refine ⟨r0, Ev.shift ?_, Ev.shift ?_⟩
        · simp only [spec_HowMany.l0, c0, c1, v1, if_true, Option.bind_some, Bool.false_eq_true, if_false, spec_l1Bit.f, e0, succ64 hp (by omega : h.length ≤ 9223372036854775807)]; exact a0
        · simp only [impl_HowMany.l0, c0, c1, v2, if_true, Option.bind_some, Bool.false_eq_true, if_false, succ64 hp (by omega : h.length ≤ 9223372036854775807)]; exact b0
      · obtain ⟨g1, g6⟩ := v3 rfl
        obtain ⟨_, _, _, _, f5, f6, _⟩ := place_facts g1 g6
        by_cases e : rd h (p : Int) % 3 = c
        · refine ⟨r1, Ev.shift ?_, Ev.shift ?_⟩
          · simp only [spec_HowMany.l0, c0, c1, v1, f6, e, if_true, Option.bind_some, beq_self_eq_true, spec_l1Bit.f, e1, succ64 hp (by omega : h.length ≤ 9223372036854775807)]; exact a1
          · simp only [impl_HowMany.l0, c0, c1, v2, f5, e, if_true, Option.bind_some, e1, succ64 hp (by omega : h.length ≤ 9223372036854775807)]; exact b1
        · refine ⟨r0, Ev.shift ?_, Ev.shift ?_⟩
          · simp only [spec_HowMany.l0, c0, c1, v1, f6, if_true, Option.bind_some, beq_iff_eq, e, if_false, spec_l1Bit.f, e0, succ64 hp (by omega : h.length ≤ 9223372036854775807)]; exact a0
          · simp only [impl_HowMany.l0, c0, c1, v2, f5, if_true, Option.bind_some, e, if_false, succ64 hp (by omega : h.length ≤ 9223372036854775807)]; exact b0
  obtain ⟨r, h1, h2⟩ := key 0 (Nat.zero_le _) 0 (Int.le_refl _) (Int.le_refl _)
  exact ⟨r, h1, h2⟩
end Go.Proofs.Yteamagejhbkhnaa.P
end
section
set_option linter.unusedSimpArgs false
set_option linter.unusedVariables false
namespace Go.Proofs.Yteamagejhbkhnaa.P
open Go.RowKit Go.Proofs.YteamagejhbkhnaaW.PrintWords Go.Proofs.YteamagejhbkhnaaW.PrintLast Go.Proofs.YteamagejhbkhnaaZ
theorem sameInts_ev (x : List Int) (hx : x.length ≤ 9223372036854775807) : Ev (fun k => laws_sameInts.f k x x) true := by
  simp only [laws_sameInts.f, if_true]
  refine (back (n := x.length) (Q := fun i => Ev (fun k => laws_sameInts.l0 k x x (i : Int)) true) ?_ (fun i hi ih => ?_) 0 (Nat.zero_le _))
  · refine Ev.shift ?_
    simp only [laws_sameInts.l0, Int.lt_irrefl, if_false]
    exact Ev.now _
  · have c0 : (0 : Int) ≤ (i : Int) := by omega
    have c1 : (i : Int) < (x.length : Int) := by omega
    refine Ev.shift ?_
    simp only [laws_sameInts.l0, c0, c1, if_true, succ64 hi hx]
    exact ih
end Go.Proofs.Yteamagejhbkhnaa.P
end
section
set_option linter.unusedSimpArgs false
set_option linter.unusedVariables false
namespace Go.Proofs.Yteamagejhbkhnaa.P
open Go.RowKit Go.Proofs.YteamagejhbkhnaaW.PrintWords Go.Proofs.YteamagejhbkhnaaW.PrintLast Go.Proofs.YteamagejhbkhnaaZ
def nz (h : List Int) : Nat → Int
  | 0 => 0
  | k + 1 => nz h k + (if rd h (k : Int) = 0 then 0 else 1)
theorem nz_le (h : List Int) : ∀ k, 0 ≤ nz h k ∧ nz h k ≤ (k : Int)
  | 0 => by simp [nz]
  | k + 1 => by have := nz_le h k; simp only [nz]; split <;> omega
theorem nz_sum (h : List Int) (hv : ∀ i : Nat, i < 4 → rd h (i : Int) = 0 ∨ (1 ≤ rd h (i : Int) ∧ rd h (i : Int) ≤ 6)) : ∀ k, k ≤ 4 → cnt h k 0 + cnt h k 1 + cnt h k 2 = nz h k
  | 0, _ => by simp [cnt, nz]
  | k + 1, hk => by
    have ih := nz_sum h hv k (by omega)
    simp only [cnt, nz]
    rcases hv k (by omega) with e | ⟨e1, e6⟩
    · simp only [e, ne_eq, not_true, false_and, if_false, if_true]; omega
    · have hne : rd h (k : Int) ≠ 0 := by omega
      simp only [ne_eq, hne, not_false_eq_true, true_and, if_false]
      have h3 : rd h (k : Int) % 3 = 0 ∨ rd h (k : Int) % 3 = 1 ∨ rd h (k : Int) % 3 = 2 := by omega
      rcases h3 with g | g | g <;> simp only [g] <;> simp <;> omega
theorem own_at {h : List Int} (ha : allOk h 0) (h4 : h.length = 4) {i : Nat} (hi : i < 4) (hne : rd h (i : Int) ≠ 0) : ∀ k, i < k → k ≤ 4 → own h k (rd h (i : Int)) = (i : Int) + 1
  | 0, h0, _ => absurd h0 (by omega)
  | k + 1, h0, hk => by
    simp only [own]
    by_cases e : k = i
    · rw [e, if_pos rfl]
    · have hn : ¬ rd h (k : Int) = rd h (i : Int) := by
        intro a
        rcases ha k (Nat.zero_le _) (by omega) with z | ⟨_, _, z⟩
        · exact hne (a ▸ z)
        · exact z ⟨i, by omega, a.symm⟩
      rw [if_neg hn]
      exact own_at ha h4 hi hne k (by omega) (by omega)
theorem wl_take (h : List Int) (s : Int) (h4 : h.length = 4) : (wl (WF h s)).take 4 = h := by
  apply List.ext_getElem?
  intro i
  by_cases hi : i < 4
  · rw [List.getElem?_take_of_lt hi, wl_get _ (by omega)]
    simp only [WF, hi, if_true]
    rw [List.getElem?_eq_getElem (by omega : i < h.length)]
    congr 1
    exact rd_get (List.getElem?_eq_getElem (by omega))
  · rw [List.getElem?_eq_none (by rw [List.length_take]; omega), List.getElem?_eq_none (by omega)]
theorem rin_wl (h : List Int) (s : Int) (h4 : h.length = 4) : rin (wl (WF h s)) = (h, s) := by
  unfold rin
  rw [if_pos (wl_length _), wl_take h s h4, wl_rd _ (by decide) (by decide)]
  rfl
theorem whole_wl {h : List Int} {s : Int} (ok : okB h 0 s = true) : whole (wl (WF h s)) = true := by
  have h4 := (okB_elim ok).1
  unfold whole
  rw [rin_wl h s h4]
  simp only [ok, Bool.true_and, wds, if_true, decide_true]
theorem rows_end (h : List Int) (s : Int) (hl : h.length ≤ 1048576) : Ev (fun k => laws_FnRows.j1 k (wds h s) false h s) true := by
  refine Ev.shift ?_
  simp only [laws_FnRows.j1, Bool.false_eq_true, if_false]
  refine Ev.bind (impl_RowsOk_ev h s hl) ?_
  by_cases ok : okB h 0 s = true
  · obtain ⟨h4, s0, s5, hv⟩ := okB_elim ok
    have ha := (okB_iff.mp ok).1
    have hw : wds h s = wl (WF h s) := by unfold wds; rw [if_pos ok]
    rw [hw]
    have hlen := wl_length (WF h s)
    simp only [ok, if_true, impl_RowsIn_eq, rin_wl h s h4, Option.bind_some]
    have hz : Ev (fun k => laws_FnRows.l1 k (wl (WF h s)) (nz h 4) 0 0 h s h s) true := by
      refine (back (n := 4) (Q := fun i => Ev (fun k => laws_FnRows.l1 k (wl (WF h s)) (nz h 4) (nz h i) (i : Int) h s h s) true) ?_ (fun i hi ih => ?_) 0 (Nat.zero_le _))
      · refine Ev.shift ?_
        simp only [laws_FnRows.l1]
        refine Ev.neg (by decide) ?_
        refine Ev.bind (impl_Whole_ev _ (by omega)) ?_
        rw [whole_wl ok]
        refine Ev.pos rfl ?_
        refine Ev.bind (sameInts_ev h (by omega)) ?_
        simp only [if_true, beq_self_eq_true]
        exact Ev.now _
      · have c0 : (0 : Int) ≤ (i : Int) := by omega
        have c1 : (i : Int) < 4 := by omega
        have c2 : (i : Int) < (h.length : Int) := by omega
        have hb := nz_le h i
        refine Ev.shift ?_
        simp only [laws_FnRows.l1, c0, c1, c2, if_true, succ64 hi (by omega)]
        simp only [nz] at ih
        by_cases e : rd h (i : Int) = 0
        · simp only [e, if_true, Int.add_zero] at ih ⊢
          exact ih
        · simp only [e, if_false] at ih ⊢
          obtain ⟨v1, v6⟩ := (hv i hi).resolve_left e
          obtain ⟨_, o2, _⟩ := place_facts v1 v6
          have hf : foundK (wl (WF h s)) (3 + rd h (i : Int)) = ((i : Int), true) := by
            have hr : rd (wl (WF h s)) (3 + rd h (i : Int)) = (i : Int) + 1 := by
              rw [wl_rd _ (by omega) (by omega)]
              have n1 : ¬ (3 + rd h (i : Int)).toNat < 4 := by omega
              have n2 : (3 + rd h (i : Int)).toNat < 10 := by omega
              have n3 : (((3 + rd h (i : Int)).toNat : Nat) : Int) - 3 = rd h (i : Int) := by omega
              simp only [WF, n1, n2, if_false, if_true, n3]
              exact own_at ha h4 hi e 4 hi (Nat.le_refl _)
            unfold foundK
            rw [if_pos (whole_wl ok), if_neg (by omega), if_neg (by omega), hr]
            rw [show (i : Int) + 1 - 1 = (i : Int) by omega, w64 (by omega) (by omega)]
          have hF : Ev (fun k => impl_Find.f k (wl (WF h s)) (rd h (i : Int))) ((i : Int), true) := by
            simp only [impl_Find.f, o2, Option.bind_some]
            refine Ev.bind (impl_found_ev _ _ (by omega) (by omega)) ?_
            rw [hf]
            exact Ev.now _
          refine Ev.bind hF ?_
          simp only [if_true]
          rw [w64 (n := nz h i + 1) (by omega) (by omega)]
          exact ih
    obtain ⟨_, d0⟩ := count_facts (c := 0) (by decide) (by decide)
    obtain ⟨_, d1⟩ := count_facts (c := 1) (by decide) (by decide)
    obtain ⟨_, d2⟩ := count_facts (c := 2) (by decide) (by decide)
    have r0 : rd (wl (WF h s)) (10 + 0) = cnt h 4 0 := by rw [wl_rd _ (by decide) (by decide)]; rfl
    have r1 : rd (wl (WF h s)) (10 + 1) = cnt h 4 1 := by rw [wl_rd _ (by decide) (by decide)]; rfl
    have r2 : rd (wl (WF h s)) (10 + 2) = cnt h 4 2 := by rw [wl_rd _ (by decide) (by decide)]; rfl
    have b0 := cnt_le h 0 4
    have b1 := cnt_le h 1 4
    have b2 := cnt_le h 2 4
    have hs := nz_sum h hv 4 (Nat.le_refl _)
    have k0 : (10 + 0 : Int) < ((wl (WF h s)).length : Int) := by omega
    have k1 : (10 + 1 : Int) < ((wl (WF h s)).length : Int) := by omega
    have k2 : (10 + 2 : Int) < ((wl (WF h s)).length : Int) := by omega
    have t3 : Ev (fun k => laws_FnRows.l0 k (wl (WF h s)) (cnt h 4 0 + cnt h 4 1 + cnt h 4 2) 3 h s h s) true := by
      refine Ev.shift ?_
      simp only [laws_FnRows.l0]
      refine Ev.neg (by decide) ?_
      rw [hs]
      exact hz
    have t2 : Ev (fun k => laws_FnRows.l0 k (wl (WF h s)) (cnt h 4 0 + cnt h 4 1) 2 h s h s) true := by
      refine Ev.shift ?_
      simp only [laws_FnRows.l0]
      refine Ev.pos (by decide) ?_
      rw [d2]
      simp only [Option.bind_some]
      refine Ev.pos (by decide) (Ev.pos k2 ?_)
      rw [r2, w64 (n := cnt h 4 0 + cnt h 4 1 + cnt h 4 2) (by omega) (by omega), show wrap64 ((2 : Int) + 1) = 3 by rw [show (2 : Int) + 1 = 3 by decide]; exact w64 (by decide) (by decide)]
      exact t3
    have t1 : Ev (fun k => laws_FnRows.l0 k (wl (WF h s)) (cnt h 4 0) 1 h s h s) true := by
      refine Ev.shift ?_
      simp only [laws_FnRows.l0]
      refine Ev.pos (by decide) ?_
      rw [d1]
      simp only [Option.bind_some]
      refine Ev.pos (by decide) (Ev.pos k1 ?_)
      rw [r1, w64 (n := cnt h 4 0 + cnt h 4 1) (by omega) (by omega), show wrap64 ((1 : Int) + 1) = 2 by rw [show (1 : Int) + 1 = 2 by decide]; exact w64 (by decide) (by decide)]
      exact t2
    refine Ev.shift ?_
    simp only [laws_FnRows.l0]
    refine Ev.pos (by decide) ?_
    rw [d0]
    simp only [Option.bind_some]
    refine Ev.pos (by decide) (Ev.pos k0 ?_)
    rw [r0, w64 (n := 0 + cnt h 4 0) (by omega) (by omega), show wrap64 ((0 : Int) + 1) = 1 by rw [show (0 : Int) + 1 = 1 by decide]; exact w64 (by decide) (by decide), Int.zero_add]
    exact t1
  · have hw : wds h s = [] := by unfold wds; rw [if_neg ok]
    rw [hw]
    simp only [Bool.not_eq_true] at ok
    simp only [ok, Bool.false_eq_true, if_false]
    exact Ev.now _
theorem okB_new : okB (List.replicate 4 (0 : Int)) 0 0 = true := by
  refine okB_iff.mpr ⟨fun j _ h2 => Or.inl ?_, List.length_replicate, by decide, by decide⟩
  have h3 : j < 4 := by simpa using h2
  have : j = 0 ∨ j = 1 ∨ j = 2 ∨ j = 3 := by omega
  rcases this with e | e | e | e <;> subst e <;> rfl
theorem rows_mid (h : List Int) (s : Int) (hl : h.length ≤ 1048576) : Ev (fun k => laws_FnRows.j0 k (wds h s) false h s) true := by
  refine Ev.shift ?_
  simp only [laws_FnRows.j0, Bool.false_eq_true, if_false, impl_RowsNew.f, spec_RowsNew.f, show (4 : Nat) ≤ 35184372088832 by decide, if_true, Option.bind_some]
  refine Ev.bind (impl_RowsOk_ev _ _ (by simp)) ?_
  rw [okB_new]
  refine Ev.pos rfl ?_
  rw [show ((0 : Int) != 0) = false by decide]
  exact rows_end h s hl
theorem pureFnRows : PureFnRows := by
  intro x hx
  refine Ev.rounds ?_
  simp only [laws_FnRows.f, laws_big.f, Option.bind_some]
  by_cases hp : (x.length : Int) > 1048576
  · simp only [hp, decide_true, if_true]; exact Ev.now _
  · simp only [hp, decide_false, Bool.false_eq_true, if_false]
    have hl : x.length ≤ 1048576 := by omega
    have dr : EvG (fun k => spec_DrawWordsOf.f k x) (fun r => r.1.length ≤ 4) := by
      simp only [spec_DrawWordsOf.f]
      refine EvG.bind (l1New_evg x hl) (fun r hr => ?_)
      have hc : okC r.1 r.2.1 := by rw [hr.1, hr.2]; exact okC_start hl
      exact EvG.bind (l3Draw_evg hc _) (fun r2 hr2 => EvG.now hr2.1)
    have d2 : EvG (fun k => spec_DrawRowsOk.f k x) (fun r => r.1.length ≤ 4) := by
      simp only [spec_DrawRowsOk.f]
      refine EvG.bind (l1New_evg x hl) (fun r hr => ?_)
      have hc : okC r.1 r.2.1 := by rw [hr.1, hr.2]; exact okC_start hl
      exact EvG.bind (l3Draw_evg hc _) (fun r2 hr2 => EvG.now hr2.1)
    have d3 : EvG (fun k => spec_DrawKeyOf.f k x) (fun r => r.1.length ≤ 4) := by
      simp only [spec_DrawKeyOf.f]
      refine EvG.bind (l1New_evg x hl) (fun r hr => ?_)
      have hc : okC r.1 r.2.1 := by rw [hr.1, hr.2]; exact okC_start hl
      exact EvG.bind (l3Draw_evg hc _) (fun r2 hr2 => EvG.bind (EvG.of_got (l1Below_got hr2.2 _ 9)) (fun r3 _ => EvG.now hr2.1))
    have d4 : EvG (fun k => spec_DrawHowMany.f k x) (fun r => r.1.length ≤ 4) := by
      simp only [spec_DrawHowMany.f]
      refine EvG.bind (l1New_evg x hl) (fun r hr => ?_)
      have hc : okC r.1 r.2.1 := by rw [hr.1, hr.2]; exact okC_start hl
      exact EvG.bind (l3Draw_evg hc _) (fun r2 hr2 => EvG.bind (EvG.of_got (l1Below_got hr2.2 _ 5)) (fun r3 _ => EvG.now hr2.1))
    obtain ⟨q1, e1, g1⟩ := dr
    obtain ⟨q2, e2, g2⟩ := d2
    obtain ⟨q3, e3, g3⟩ := d3
    obtain ⟨q4, e4, g4⟩ := d4
    have hs := wds_small q1.1 q1.2
    refine Ev.bind e1 (Ev.bind (impl_WordsOf_ev _ _ (by omega)) (Ev.bind e2 (Ev.bind e3 (Ev.bind e4 (Ev.bind (spec_WordsOf_ev _ _ (by omega)) (Ev.bind (sameInts_ev _ (by omega)) ?_))))))
    simp only [if_true]
    refine Ev.bind (impl_RowsOk_ev _ _ (by omega)) (Ev.bind (spec_RowsOk_ev _ _ (by omega)) ?_)
    simp only [bne_self_eq_false, Bool.false_eq_true, if_false]
    obtain ⟨r5, a5, b5⟩ := keyBoth q3.1 (by omega) q3.2.1 q3.2.2
    refine Ev.bind b5 (Ev.bind a5 ?_)
    simp only [if_true]
    obtain ⟨r6, a6, b6⟩ := manyBoth q4.1 (by omega) q4.2.1 q4.2.2
    refine Ev.bind b6 (Ev.bind a6 ?_)
    simp only [bne_self_eq_false]
    exact rows_mid _ _ (by omega)
end Go.Proofs.Yteamagejhbkhnaa.P
end
namespace Go.Proofs.Yteamagejhbkhnaa.fnRows
open Go.ChangeShapes Go.WideShapes Go.ChangeAt Go.RowKit Go.Proofs.YteamagejhbkhnaaW.PrintWords Go.Proofs.YteamagejhbkhnaaW.PrintLast Go.Proofs.YteamagejhbkhnaaZ Go.Proofs.Yteamagejhbkhnaa.P
open Go.ChangeMaps (open_string shut_string)
set_option linter.unusedVariables false
theorem own : ownKnob Try.prog.godebug = none := by kernel_rfl
theorem laidOut : laidOutB Try.prog = true := by kernel_rfl
set_option maxRecDepth 100000 in
theorem lifted (os : Os) (started : os.Started) (H : Type) (enc : TypeId × Value → H) :
    ReturnsInHanded {} Try.checked os 8 .any (Rows.fnRowsSpec.pre6 enc Try.prog Try.f8 Rows.fnRowsRow.domain false) (Rows.fnRowsSpec.post enc Try.prog Try.f8 false true false false) := by
  refine returnsInHanded_of_change_sized (C := Try.checked) own started (by kernel_rfl) Try.func8
    (ChangeSpec.witness6 (enc := enc) (C := Try.checked) false ⟨#[], #[.slice none 0 0], []⟩ 8 (by kernel_rfl) (by kernel_rfl) (by kernel_rfl) (by kernel_rfl)) ?_
  intro W base args ds gs before hval0 hW hcnd hsz0 _
  have hval : ∀ (j : Nat) t v, Try.f8.params[j]? = some t → args[j]? = some v → Value.okWide Try.prog W .any base t v := hval0
  have hW' := hW
  obtain ⟨p, q, hA0, hV, rfl, hfz, hnd⟩ := hW
  have hA : DataW.TrodAll enc Try.prog W 0 (fun _ => true) true Try.f8.params.toList args.toList ds p := hA0
  rw [Try.params8] at hA hval
  obtain ⟨v0, vs0, d0, ds0, p0, q0, hargs, rfl, rfl, h0, r0⟩ := trodAll_cons hA
  obtain ⟨rfl, rfl, rfl⟩ := trodAll_nil r0
  obtain rfl : args = #[v0] := by cases args; simp_all
  obtain ⟨rfl, rfl⟩ := trodVars_none hV
  have k0_ := h0
  have lt0 : ∀ x ∈ p0, x.block < W.heap.size := by obtain ⟨m, hm⟩ := k0_; exact DataW.trod_lt m _ _ _ hm
  obtain ⟨a0_, len0_, cap0_, rfl⟩ := okWide_slice Try.underlying35 (hval 0 35 v0 rfl rfl)
  obtain ⟨x0, K0, wf0_⟩ := Opens.param (Opens.slice 5 Try.underlying35 (by kernel_rfl) (Opens.int Try.underlying5)) h0
  obtain ⟨A0, c0, e0, l0, g0⟩ := K0
  simp [Value.cells] at e0
  obtain ⟨rfl, rfl, rfl⟩ := e0
  obtain ⟨k, hk⟩ := pureFnRows x0 wf0_
  clear hA0 hval0 hsz0
  refine (laws_FnRows.calls k _ _ x0 true W g0 l0 hk).mono fun e W' hh => ?_
  obtain ⟨he, bel0⟩ := hh
  have bel : Below W.heap.size W W' := bel0
  subst he
  exact ⟨_, rfl, _, _, _, [], _, [], hW', trodAll_mk1 (shut_bool Try.underlying4 _), (trodAll_cons_mk (Below.trod laidOut (by kernel_rfl) (of_decide_eq_true (by kernel_rfl)) k0_ bel lt0) trodAll_mk0), rfl, bel.frame _, fun h => by cases h⟩
theorem over : Rows.fnRowsRow.holds Try.pinned (OpenSpec.ofChange Rows.fnRowsSpec) :=
  OpenClaim.holds_of_wide 8 Try.f8 rfl rfl rfl rfl rfl rfl rfl ⟨rfl, rfl, rfl, rfl, rfl⟩ rfl rfl rfl rfl rfl (by kernel_rfl) Try.func8 (by kernel_rfl)
    (of_decide_eq_true (by kernel_rfl)) (by unfold Func.isWrapper; first | (rw [if_pos (by decide +kernel)]; kernel_rfl) | (rw [if_neg (by decide +kernel)]; exact ⟨rfl, rfl⟩))
    (fun os started H enc _ => lifted os started H enc)
theorem proved : Rows.FnRowsSaid := over
#print axioms proved
end Go.Proofs.Yteamagejhbkhnaa.fnRows
namespace Go.Proofs.Yteamagejhbkhnaa
theorem fnRows_holds : Rows.FnRowsSaid := fnRows.proved
end Go.Proofs.Yteamagejhbkhnaa

/- The law FnTexts holds, as_ its card says it: for every input the call returns true, and each argument reads afterwards as_ it read before. Conditions: the two listed variables of unicode/utf8 start as_ the library's text lays them (the card ties them); the call reads neither. Written by a program of this session. -/
import Derived.OpenShut
import Derived.DataElems
import Derived.DataReads
import Derived.Laws.BitsLemmas
import Derived.Lib.SplitLaws
import Derived.Lib.IndexBytes
import Derived.Lib.IndexLaws
import Derived.Lib.Join
import Derived.Test.YtafcfhgdblefgaaDoorCards
import Derived.Test.YtafcfhgdblefgaaDoorTie
import Derived.WalkKit
import Derived.ProofKit
import Derived.ShutString
import Derived.ChangeOld
import Derived.Below
import Derived.SizedLaws
import Derived.Carry
import Derived.Deep.DeepHandedRow
import Derived.Lib.LaidTab
import Derived.Test.YtafcfhgdblefgaaDoorPkFnTexts3
set_option linter.unusedSimpArgs false
set_option linter.unusedVariables false
namespace Go.Proofs.YtafcfhgdblefgaaDoor.P
open Go.Proofs.YtafcfhgdblefgaaDoorZ Go.RowKit Go.Proofs.YtafcfhgdblefgaaDoorW.PrintWords Go.Proofs.YtafcfhgdblefgaaDoorW.PrintLast Go.Proofs.YtafcfhgdblefgaaDoorW.PrintMore
attribute [local go_sem] max2_int min2_int max_two min_two max_three min_three max_four min_four   -- for this text's walks alone
attribute [local go_sem high] eqA23
mutual
def laws_FnTexts.j0 : Nat → ByteArray → ByteArray → Bool → ByteArray → List (S23) → Bool → List (S23) → Bool → Int → Int → Int → Int → Int → Int → Option (Bool)
  | 0, _, _, _, _, _, _, _, _, _, _, _, _, _, _ => none
  | k + 1, x4, x5, x7, x11, x12, x13, x14, x93, x106000, x106001, x106002, x113000, x113001, x113002 => if x93 = true then (some false) else (laws_FnTexts.l0 k x4 x5 x7 x11 x12 x13 x14 0 x106000 x106001 x106002 x113000 x113001 x113002)
def laws_FnTexts.l0 : Nat → ByteArray → ByteArray → Bool → ByteArray → List (S23) → Bool → List (S23) → Int → Int → Int → Int → Int → Int → Int → Option (Bool)
  | 0, _, _, _, _, _, _, _, _, _, _, _, _, _, _ => none
  | k + 1, x4, x5, x7, x11, x12, x13, x14, x17, x106000, x106001, x106002, x113000, x113001, x113002 => if x17 < (x12.length : Int) then (if 0 ≤ x17 then (if x17 < (x14.length : Int) then (if (!(((rd_T23 x12 x17).f0) == ((rd_T23 x14 x17).f0)) || (!(((rd_T23 x12 x17).f1) == ((rd_T23 x14 x17).f1)) || (!(((rd_T23 x12 x17).f2) == ((rd_T23 x14 x17).f2))))) = true then (some false) else (laws_FnTexts.l0 k x4 x5 x7 x11 x12 x13 x14 (wrap64 (x17 + 1)) x106000 x106001 x106002 x113000 x113001 x113002)) else (none)) else (none)) else (if x7 = true then ((impl_OpText.f k x113000 x113001 x113002).bind fun t142 => (if t142.toList = x5.toList then ((impl_OpOk.f k x113000 x113001 x113002).bind fun t143 => (if t143 = true then (if x13 = true then ((impl_ProgText.f k x12).bind fun t144 => (laws_FnTexts.j2 k x4 (t144.toList != x11.toList) x106000 x106001 x106002)) else (laws_FnTexts.j2 k x4 false x106000 x106001 x106002)) else (laws_FnTexts.j2 k x4 true x106000 x106001 x106002))) else (laws_FnTexts.j2 k x4 true x106000 x106001 x106002))) else (if x13 = true then ((impl_ProgText.f k x12).bind fun t145 => (laws_FnTexts.j2 k x4 (t145.toList != x11.toList) x106000 x106001 x106002)) else (laws_FnTexts.j2 k x4 false x106000 x106001 x106002)))
def laws_FnTexts.j2 : Nat → ByteArray → Bool → Int → Int → Int → Option (Bool)
  | 0, _, _, _, _, _ => none
  | k + 1, x4, x129, x106000, x106001, x106002 => if x129 = true then (some false) else ((impl_OpOk.f k x106000 x106001 x106002).bind fun t146 => (if t146 = true then ((impl_OpOf.f k x4).bind fun bt147 => (if bt147.2.2.2 = true then (some (bt147.1 == x106000 && (bt147.2.1 == x106001 && (bt147.2.2.1 == x106002)))) else (some false))) else (some (x4.toList == ([110, 111, 110, 101] : List UInt8)))))
end
def laws_FnTexts.f (k : Nat) (l0 : List Int) : Option (Bool) := (laws_big.f l0).bind fun t101 => (if t101 = true then (some true) else ((spec_DrawOpText.f k l0).bind fun bt102 => ((impl_OpText.f k bt102.1 bt102.2.1 bt102.2.2).bind fun t106 => ((spec_DrawOpOf.f k l0).bind fun t107 => ((impl_OpOf.f k t107).bind fun bt108 => ((spec_OpOf.f k t107).bind fun bt113 => ((spec_DrawProgText.f k l0).bind fun t118 => ((spec_DrawProgOf.f k l0).bind fun t121 => ((impl_ProgOf.f k t121).bind fun bt122 => ((spec_ProgOf.f k t121).bind fun bt126 => ((spec_DrawResText.f k l0).bind fun bt130 => ((spec_OpText.f k bt102.1 bt102.2.1 bt102.2.2).bind fun t135 => (if t106.toList = t135.toList then (if (!(bt108.1 == bt113.1) || (!(bt108.2.1 == bt113.2.1) || (!(bt108.2.2.1 == bt113.2.2.1)))) = true then (laws_FnTexts.j0 k t106 t107 bt108.2.2.2 t121 bt122.1 bt122.2 bt126.1 true bt102.1 bt102.2.1 bt102.2.2 bt108.1 bt108.2.1 bt108.2.2.1) else (if (bt108.2.2.2 != bt113.2.2.2) = true then (laws_FnTexts.j0 k t106 t107 bt108.2.2.2 t121 bt122.1 bt122.2 bt126.1 true bt102.1 bt102.2.1 bt102.2.2 bt108.1 bt108.2.1 bt108.2.2.1) else ((impl_ProgText.f k t118).bind fun t136 => ((spec_ProgText.f k t118).bind fun t137 => (if t136.toList = t137.toList then (if (bt122.2 != bt126.2) = true then (laws_FnTexts.j0 k t106 t107 bt108.2.2.2 t121 bt122.1 bt122.2 bt126.1 true bt102.1 bt102.2.1 bt102.2.2 bt108.1 bt108.2.1 bt108.2.2.1) else (if (bt122.1.length : Int) = (bt126.1.length : Int) then ((impl_ResText.f k bt130.1 bt130.2).bind fun t138 => ((spec_ResText.f k bt130.1 bt130.2).bind fun t139 => (laws_FnTexts.j0 k t106 t107 bt108.2.2.2 t121 bt122.1 bt122.2 bt126.1 (t138.toList != t139.toList) bt102.1 bt102.2.1 bt102.2.2 bt108.1 bt108.2.1 bt108.2.2.1))) else (laws_FnTexts.j0 k t106 t107 bt108.2.2.2 t121 bt122.1 bt122.2 bt126.1 true bt102.1 bt102.2.1 bt102.2.2 bt108.1 bt108.2.1 bt108.2.2.1))) else (laws_FnTexts.j0 k t106 t107 bt108.2.2.2 t121 bt122.1 bt122.2 bt126.1 true bt102.1 bt102.2.1 bt102.2.2 bt108.1 bt108.2.1 bt108.2.2.1)))))) else (laws_FnTexts.j0 k t106 t107 bt108.2.2.2 t121 bt122.1 bt122.2 bt126.1 true bt102.1 bt102.2.1 bt102.2.2 bt108.1 bt108.2.1 bt108.2.2.1))))))))))))))
def laws_FnTexts.T13 : Bool × List (List Nat × List Nat) := (true, [([], []), ([], []), ([1], [1]), ([0, 2], [0, 2]), ([3, 2], [3]), ([4], [4]), ([4], [4]), ([5, 6, 4], [4, 5, 6]), ([4, 7], [4, 7]), ([8, 4], [8]), ([9], [9]), ([9], [9]), ([10, 11, 9], [9, 10, 11]), ([9, 12], [9, 12]), ([13, 9], [13]), ([14], [14]), ([15, 14, 14], [14, 15]), ([14], [14]), ([17, 16, 14], [14, 17]), ([16, 18, 14], [14, 16, 18]), ([14, 19], [14, 19]), ([20, 18], [20]), ([21], [21]), ([21], [21]), ([22, 23, 21], [21, 22, 23]), ([21, 24], [21, 24]), ([25, 21], [25]), ([26], [26]), ([27, 26], [26, 27]), ([26], [26]), ([29, 26], [26, 29]), ([28, 30, 26], [26, 28, 30]), ([26, 31], [26, 31]), ([32, 26], [32]), ([33], [33]), ([34, 33, 33], [33, 34]), ([33], [33]), ([36, 35, 33], [33, 36]), ([35, 37, 33], [33, 35, 37]), ([33, 38], [33, 38])])
def laws_FnTexts.B13 : List Nat := [0, 0, 2, 7, 15, 31, 31, 127, 255, 511, 1023, 1023, 4095, 8191, 16383, 32767, 65535, 32767, 262143, 524287, 1048575, 2097151, 4194303, 4194303, 16777215, 33554431, 67108863, 134217727, 268435455, 134217727, 671088639, 2147483647, 4294967295, 8589934591, 17179869183, 34359738367, 17179869183, 137438953471, 274877906943, 549755813887]
theorem laws_FnTexts.tab13 : rtab .any (opsOf Tryd.f5 13) = laws_FnTexts.T13 := by kernel_rfl
theorem laws_FnTexts.bits13 : waitsOk laws_FnTexts.T13.2 laws_FnTexts.B13 = true := by kernel_rfl
def laws_FnTexts.T18 : Bool × List (List Nat × List Nat) := (true, [([], []), ([], []), ([0, 1], [0, 1]), ([2], [2]), ([], []), ([], []), ([4, 5], [4, 5]), ([6], [6]), ([3, 7], [3, 7])])
def laws_FnTexts.B18 : List Nat := [0, 0, 3, 7, 0, 0, 48, 112, 255]
theorem laws_FnTexts.tab18 : rtab .any (opsOf Tryd.f5 18) = laws_FnTexts.T18 := by kernel_rfl
theorem laws_FnTexts.bits18 : waitsOk laws_FnTexts.T18.2 laws_FnTexts.B18 = true := by kernel_rfl
set_option maxHeartbeats 8000000 in
set_option maxRecDepth 100000 in
theorem laws_FnTexts.calls (k : Nat) (A0 : Option Addr) (c0 : Nat) (l0 : List Int) (r : Bool) (w : World) (hr0 : Kd.C (Kd.int .u8) w A0 l0.length l0) (hc0 : l0.length ≤ c0) (h : laws_FnTexts.f k l0 = some r) :
    Calls Tryd.prog 5 #[.slice A0 l0.length c0] w fun e w' => e = .returned (.bool r) ∧ Below w.heap.size w w' := by
  have hu23 := Tryd.underlying23
  have hu41 := Tryd.underlying41
  have HR0 := aM hr0
  have HC0 := aM hc0
  clear hr0 hc0
  have HB := aM (Below.refl w.heap.size w)
  have H := h
  unfold laws_FnTexts.f at H
  clear h
  replace H := bE H; obtain ⟨t101, A2, H⟩ := H
  go_enter Tryd.func5, Tryd.ntmps5
  by_cases c3 : t101 = true
  · subst c3
    rw [if_pos rfl] at H
    obtain rfl := sI H
    go_wp2_with (first | (refine goesM 14 21 Tryd.func14 #[.slice A0 l0.length c0] ?_; refine (laws_big.calls _ _ _ _ _ (cX HR0.out) HC0.out A2.out).mono ?_; rintro e w' ⟨rfl, ⟨nd, rfl⟩⟩; refine ⟨_, rfl, ?_⟩))
    go_ret
    exact ⟨rE, (hX HB.out)⟩
  replace c3 := Bool.eq_false_iff.mpr c3
  subst c3
  rw [if_neg nft] at H
  replace H := bE H; obtain ⟨⟨t102, t103, t104⟩, A4, H⟩ := H
  try dsimp only at H
  replace H := bE H; obtain ⟨t106, A5, H⟩ := H
  replace H := bE H; obtain ⟨t107, A6, H⟩ := H
  replace H := bE H; obtain ⟨⟨t108, t109, t110, t111⟩, A7, H⟩ := H
  try dsimp only at H
  replace H := bE H; obtain ⟨⟨t113, t114, t115, t116⟩, A8, H⟩ := H
  try dsimp only at H
  replace H := bE H; obtain ⟨t118, A9, H⟩ := H
  replace H := bE H; obtain ⟨t121, A10, H⟩ := H
  replace H := bE H; obtain ⟨⟨t122, t123⟩, A11, H⟩ := H
  try dsimp only at H
  replace H := bE H; obtain ⟨⟨t126, t127⟩, A12, H⟩ := H
  try dsimp only at H
  replace H := bE H; obtain ⟨⟨t130, t131⟩, A13, H⟩ := H
  try dsimp only at H
  have HC14 := aM H
  clear H
  go_upto_region 13 with (first | ((with_reducible refine gate_callee (f := 14) rfl ?_); refine goesM 14 21 Tryd.func14 #[.slice A0 l0.length c0] ?_; refine (laws_big.calls _ _ _ _ _ (cX HR0.out) HC0.out A2.out).mono ?_; rintro e w' ⟨rfl, ⟨nd, rfl⟩⟩; refine ⟨_, rfl, ?_⟩) | ((with_reducible refine gate_callee (f := 15) rfl ?_); refine goesM 15 23 Tryd.func15 #[.slice A0 l0.length c0] ?_; refine (spec_DrawOpText.calls _ _ _ _ _ _ _ _ (cX HR0.out) HC0.out A4.out).mono ?_; rintro e wz1 ⟨rfl, hb⟩; refine ⟨_, rfl, ?_⟩; replace HB := aS HB hb; clear hb) | ((with_reducible refine gate_dst (N := 3) rfl ?_); (try (refine gate_guard (by rfl) ?_; dsimp only)); refine boxF 3 #[.int .i64 0, .int .i64 0, .int .i64 0] 23 ?_; intro gbz1 hg wz2 hbox hb; have BKz1 := aM (hbox); have GWz1 := aG hg HB; have GEz1 := aG hg HB; replace HB := aS HB hb; clear hb hbox hg; obtain ⟨hczz1, hczz2, hczz3, hfzz1, hfzz2, hfzz3⟩ := cZ3 BKz1.out) | ((with_reducible refine gate_callee (f := 16) rfl ?_); refine goesM 16 25 Tryd.func16 #[.agg #[.int .i64 t102, .int .i64 t103, .int .i64 t104]] ?_; refine (impl_OpText.calls _ _ _ _ _ _ A5.out).mono ?_; rintro e wz3 ⟨rfl, hb⟩; refine ⟨_, rfl, ?_⟩; replace BKz1 := aM (blk_below (g := gbz1) (o := .cells #[.int .i64 t102, .int .i64 t103, .int .i64 t104] 23 (0, 0)) (bP BKz1.out) hb); replace HB := aS HB hb; clear hb) | ((with_reducible refine gate_callee (f := 17) rfl ?_); refine goesM 17 27 Tryd.func17 #[.slice A0 l0.length c0] ?_; refine (spec_DrawOpOf.calls _ _ _ _ _ _ (cC HR0.out HB.out) HC0.out A6.out).mono ?_; rintro e wz4 ⟨rfl, hb⟩; refine ⟨_, rfl, ?_⟩; replace BKz1 := aB BKz1 hb; replace HB := aS HB hb; clear hb) | ((with_reducible refine gate_callee (f := 7) rfl ?_); refine goesM 7 30 Tryd.func7 #[.string t107] ?_; refine (impl_OpOf.calls _ _ _ _ _ _ _ A7.out).mono ?_; rintro e wz5 ⟨rfl, hb⟩; refine ⟨_, rfl, ?_⟩; replace BKz1 := aB BKz1 hb; replace HB := aS HB hb; clear hb) | ((with_reducible refine gate_dst (N := 6) rfl ?_); (try (refine gate_guard (by rfl) ?_; dsimp only)); refine boxF 6 #[.int .i64 0, .int .i64 0, .int .i64 0] 23 ?_; intro gbz2 hg wz6 hbox hb; have BKz2 := aM (hbox); have GWz2 := aG hg HB; have GEz2 := aG hg HB; have NBz1 := aL hg BKz1; have NBz2 := aR hg BKz1; replace BKz1 := aB BKz1 hb; replace HB := aS HB hb; clear hb hbox hg; have hnbz1 := NBz2.out; have hncz1 := NBz1.out; obtain ⟨hczz4, hczz5, hczz6, hfzz4, hfzz5, hfzz6⟩ := cZ3 BKz2.out) | ((with_reducible refine gate_callee (f := 6) rfl ?_); refine goesM 6 35 Tryd.func6 #[.string t107] ?_; refine (spec_OpOf.calls _ _ _ _ _ _ _ A8.out).mono ?_; rintro e wz7 ⟨rfl, hb⟩; refine ⟨_, rfl, ?_⟩; replace BKz1 := aF BKz1 hb; replace BKz2 := aM (blk_below (g := gbz2) (o := .cells #[.int .i64 t108, .int .i64 t109, .int .i64 t110] 23 (0, 0)) (bP BKz2.out) hb); replace HB := aS HB hb; clear hb) | ((with_reducible refine gate_dst (N := 8) rfl ?_); (try (refine gate_guard (by rfl) ?_; dsimp only)); refine boxF 8 #[.int .i64 0, .int .i64 0, .int .i64 0] 23 ?_; intro gbz3 hg wz8 hbox hb; have BKz3 := aM (hbox); have GWz3 := aG hg HB; have GEz3 := aG hg HB; have NBz3 := aL hg BKz1; have NBz4 := aR hg BKz1; have NBz5 := aL hg BKz2; have NBz6 := aR hg BKz2; replace BKz1 := aB BKz1 hb; replace BKz2 := aB BKz2 hb; replace HB := aS HB hb; clear hb hbox hg; have hnbz2 := NBz4.out; have hncz2 := NBz3.out; have hnbz3 := NBz6.out; have hncz3 := NBz5.out; obtain ⟨hczz7, hczz8, hczz9, hfzz7, hfzz8, hfzz9⟩ := cZ3 BKz3.out) | ((with_reducible refine gate_callee (f := 18) rfl ?_); refine goesM 18 39 Tryd.func18 #[.slice A0 l0.length c0] ?_; refine (spec_DrawProgText.calls k _ _ l0 t118 _ (by exact Kd.C_below HR0.out (hX HB.out)) HC0.out A9.out).mono ?_; rintro e wz9 ⟨vz1, rfl, hoz1, hb⟩; refine ⟨_, rfl, ?_⟩; have HOz1 := aM (Kd.R_lower (Kd.R_newB (Kd.R_newB (Kd.R_newB hoz1 (g := gbz1) (o := .cells #[.int .i64 t102, .int .i64 t103, .int .i64 t104] 23 (0, 0)) (bF BKz1.out)) (g := gbz2) (o := .cells #[.int .i64 t108, .int .i64 t109, .int .i64 t110] 23 (0, 0)) (bF BKz2.out)) (g := gbz3) (o := .cells #[.int .i64 t113, .int .i64 t114, .int .i64 t115] 23 (0, 0)) (bP BKz3.out)) (below_size (hX HB.out))); replace BKz1 := aF BKz1 hb; replace BKz2 := aF BKz2 hb; replace BKz3 := aM (blk_below (g := gbz3) (o := .cells #[.int .i64 t113, .int .i64 t114, .int .i64 t115] 23 (0, 0)) (bP BKz3.out) hb); replace HB := aS HB hb; clear hb hoz1) | ((with_reducible refine gate_callee (f := 19) rfl ?_); refine goesM 19 41 Tryd.func19 #[.slice A0 l0.length c0] ?_; refine (spec_DrawProgOf.calls _ _ _ _ _ _ (cC HR0.out HB.out) HC0.out A10.out).mono ?_; rintro e wz10 ⟨rfl, hb⟩; refine ⟨_, rfl, ?_⟩; replace HOz1 := aQ HOz1 hb; replace BKz1 := aB BKz1 hb; replace BKz2 := aB BKz2 hb; replace BKz3 := aB BKz3 hb; replace HB := aS HB hb; clear hb) | ((with_reducible refine gate_callee (f := 10) rfl ?_); refine goesM 10 44 Tryd.func10 #[.string t121] ?_; refine (impl_ProgOf.calls _ _ _ _ _ A11.out).mono ?_; rintro e wz11 ⟨vz2, rfl, hoz1, hb⟩; refine ⟨_, rfl, ?_⟩; have HOz2 := aM (Kd.R_lower (Kd.R_newB (Kd.R_newB (Kd.R_newB (Kd.R_new' hoz1 (Kd.R_lt (rX HOz1.out))) (g := gbz1) (o := .cells #[.int .i64 t102, .int .i64 t103, .int .i64 t104] 23 (0, 0)) (bX BKz1.out)) (g := gbz2) (o := .cells #[.int .i64 t108, .int .i64 t109, .int .i64 t110] 23 (0, 0)) (bX BKz2.out)) (g := gbz3) (o := .cells #[.int .i64 t113, .int .i64 t114, .int .i64 t115] 23 (0, 0)) (bX BKz3.out)) (below_size (hX HB.out))); replace HOz1 := aM (Kd.R_elder' (rX HOz1.out) (Kd.R_base hoz1) hb); replace BKz1 := aB BKz1 hb; replace BKz2 := aB BKz2 hb; replace BKz3 := aB BKz3 hb; replace HB := aS HB hb; clear hb hoz1) | ((with_reducible refine gate_callee (f := 9) rfl ?_); refine goesM 9 49 Tryd.func9 #[.string t121] ?_; refine (spec_ProgOf.calls _ _ _ _ _ A12.out).mono ?_; rintro e wz12 ⟨vz3, rfl, hoz1, hb⟩; refine ⟨_, rfl, ?_⟩; have HOz3 := aM (Kd.R_lower (Kd.R_newB (Kd.R_newB (Kd.R_newB (Kd.R_new' (Kd.R_new' hoz1 (Kd.R_lt (rX HOz1.out))) (Kd.R_lt (rX HOz2.out))) (g := gbz1) (o := .cells #[.int .i64 t102, .int .i64 t103, .int .i64 t104] 23 (0, 0)) (bX BKz1.out)) (g := gbz2) (o := .cells #[.int .i64 t108, .int .i64 t109, .int .i64 t110] 23 (0, 0)) (bX BKz2.out)) (g := gbz3) (o := .cells #[.int .i64 t113, .int .i64 t114, .int .i64 t115] 23 (0, 0)) (bX BKz3.out)) (below_size (hX HB.out))); replace HOz1 := aM (Kd.R_elder' (rX HOz1.out) (Kd.R_base hoz1) hb); replace HOz2 := aM (Kd.R_elder' (rX HOz2.out) (Kd.R_base hoz1) hb); replace BKz1 := aB BKz1 hb; replace BKz2 := aB BKz2 hb; replace BKz3 := aB BKz3 hb; replace HB := aS HB hb; clear hb hoz1) | ((with_reducible refine gate_callee (f := 20) rfl ?_); refine goesM 20 53 Tryd.func20 #[.slice A0 l0.length c0] ?_; refine (spec_DrawResText.calls _ _ _ _ _ _ _ (cC HR0.out HB.out) HC0.out A13.out).mono ?_; rintro e wz13 ⟨vz4, rfl, hoz1, hb⟩; refine ⟨_, rfl, ?_⟩; have HOz4 := aM (Kd.R_lower hoz1 (below_size (hX HB.out))); replace HOz1 := aQ HOz1 hb; replace HOz2 := aQ HOz2 hb; replace HOz3 := aQ HOz3 hb; replace BKz1 := aB BKz1 hb; replace BKz2 := aB BKz2 hb; replace BKz3 := aB BKz3 hb; replace HB := aS HB hb; clear hb hoz1) | ((with_reducible refine gate_dst (N := 16) rfl ?_); (try (refine gate_guard (by rfl) ?_; dsimp only)); refine boxF 16 #[.int .i64 0, .slice none 0 0] 41 ?_; intro gbz4 hg wz14 hbox hb; have BKz4 := aM (hbox); have GWz4 := aG hg HB; have GEz4 := aG hg HB; have NBz7 := aL hg BKz1; have NBz8 := aR hg BKz1; have NBz9 := aL hg BKz2; have NBz10 := aR hg BKz2; have NBz11 := aL hg BKz3; have NBz12 := aR hg BKz3; replace HOz1 := aQ HOz1 hb; replace HOz2 := aQ HOz2 hb; replace HOz3 := aQ HOz3 hb; replace HOz4 := aQ HOz4 hb; replace BKz1 := aB BKz1 hb; replace BKz2 := aB BKz2 hb; replace BKz3 := aB BKz3 hb; replace HB := aS HB hb; clear hb hbox hg; have hnbz4 := NBz8.out; have hncz4 := NBz7.out; have hnbz5 := NBz10.out; have hncz5 := NBz9.out; have hnbz6 := NBz12.out; have hncz6 := NBz11.out; obtain ⟨hczz10, hczz11, hfzz10, hfzz11⟩ := cZ2 BKz4.out; obtain ⟨Aoz1, coz1, eoz1⟩ := Kd.R_slice HOz4.out; subst eoz1))
  (try simp only [Act.put, List.setIfInBounds_toArray, List.set_cons_zero, List.set_cons_succ])
  go_cut [93] (fun vz5 wc => ∃ (kq : Nat) (x93_13 : Bool), vz5 = .bool x93_13 ∧ Aside0 (laws_FnTexts.j0 kq t106 t107 t111 t121 t122 t123 t126 x93_13 t102 t103 t104 t108 t109 t110 = some r) ∧ Aside0 (kq ≤ k) ∧ Aside0 (Kd.R k23 23 wc w.heap.size (fun k_ => some k_ ≠ (vz3 : Value).ownBlock ∧ k_ ≠ gbz1 ∧ k_ ≠ gbz2 ∧ k_ ≠ gbz3) vz2 t122) ∧ Aside0 (Kd.R k23 23 wc w.heap.size (fun k_ => some k_ ≠ (vz2 : Value).ownBlock ∧ k_ ≠ gbz1 ∧ k_ ≠ gbz2 ∧ k_ ≠ gbz3) vz3 t126) ∧ Aside0 (Kd.R (Kd.int .i64) 3 wc w.heap.size (fun _ => True) (.slice Aoz1 t131.length coz1) t131) ∧ Aside0 (wc.heap[gbz1]? = some (.cells #[.int .i64 t102, .int .i64 t103, .int .i64 t104] 23 (0, 0))) ∧ Aside0 (wc.heap[gbz2]? = some (.cells #[.int .i64 t108, .int .i64 t109, .int .i64 t110] 23 (0, 0))) ∧ Aside0 (wc.heap[gbz3]? = some (.cells #[.int .i64 t113, .int .i64 t114, .int .i64 t115] 23 (0, 0))) ∧ Aside0 (wc.heap[gbz4]? = some (.cells #[.int .i64 t130, (.slice Aoz1 t131.length coz1)] 41 (0, 0))) ∧ Aside0 (Below w.heap.size w wc))
  case first =>
    have H := HC14.out
    clear HC14
    replace H := bE H; obtain ⟨t135, A40, H⟩ := H
    by_cases c41 : t106.toList = t135.toList
    case neg =>
      rw [if_neg c41] at H
      obtain ⟨c41b0, c41b1⟩ := eqF c41
      (first | rw [c41b0] | (simp only [i64_w, i32_w]; rw [c41b0]) | skip)
      have H' := aM H
      clear H
      try go_wp2
      have ny1 : Aside0 (Kd.R k23 23 ((wz14.setCell ⟨gbz4, 0, none⟩ (.int .i64 t130)).setCell ⟨gbz4, 1, none⟩ (.slice Aoz1 t131.length coz1)) w.heap.size (fun k_ => some k_ ≠ (vz2 : Value).ownBlock ∧ some k_ ≠ (vz3 : Value).ownBlock ∧ k_ ≠ gbz1 ∧ k_ ≠ gbz2 ∧ k_ ≠ gbz3) vz1 t118) := ⟨(rT (h := by exact Kd.R_mono (Kd.R_far (p := ⟨gbz4, 1, none⟩) (Kd.R_far (p := ⟨gbz4, 0, none⟩) (Kd.R_types HOz1.out BKz4.out (by decide)) (fun _ hk => hk.2) (.int .i64 t130)) (fun _ hk => hk.2) (.slice Aoz1 t131.length coz1)) (fun _ hk => ⟨hk.1.1.2, ⟨hk.1.2, ⟨hk.1.1.1.1.1.2, ⟨hk.1.1.1.1.2, hk.1.1.1.2⟩⟩⟩⟩)))⟩
      have ny2 : Aside0 (Kd.R k23 23 ((wz14.setCell ⟨gbz4, 0, none⟩ (.int .i64 t130)).setCell ⟨gbz4, 1, none⟩ (.slice Aoz1 t131.length coz1)) w.heap.size (fun k_ => some k_ ≠ (vz1 : Value).ownBlock ∧ some k_ ≠ (vz3 : Value).ownBlock ∧ k_ ≠ gbz1 ∧ k_ ≠ gbz2 ∧ k_ ≠ gbz3) vz2 t122) := ⟨(rT (h := by exact Kd.R_mono (Kd.R_far (p := ⟨gbz4, 1, none⟩) (Kd.R_far (p := ⟨gbz4, 0, none⟩) (Kd.R_types HOz2.out BKz4.out (by decide)) (fun _ hk => hk.2) (.int .i64 t130)) (fun _ hk => hk.2) (.slice Aoz1 t131.length coz1)) (fun _ hk => ⟨hk.1.1.1.1.1.2, ⟨hk.1.2, ⟨hk.1.1.1.1.2, ⟨hk.1.1.1.2, hk.1.1.2⟩⟩⟩⟩)))⟩
      have ny3 : Aside0 (Kd.R k23 23 ((wz14.setCell ⟨gbz4, 0, none⟩ (.int .i64 t130)).setCell ⟨gbz4, 1, none⟩ (.slice Aoz1 t131.length coz1)) w.heap.size (fun k_ => some k_ ≠ (vz1 : Value).ownBlock ∧ some k_ ≠ (vz2 : Value).ownBlock ∧ k_ ≠ gbz1 ∧ k_ ≠ gbz2 ∧ k_ ≠ gbz3) vz3 t126) := ⟨(rT (h := by exact Kd.R_mono (Kd.R_far (p := ⟨gbz4, 1, none⟩) (Kd.R_far (p := ⟨gbz4, 0, none⟩) (Kd.R_types HOz3.out BKz4.out (by decide)) (fun _ hk => hk.2) (.int .i64 t130)) (fun _ hk => hk.2) (.slice Aoz1 t131.length coz1)) (fun _ hk => ⟨hk.1.1.1.1.1.2, ⟨hk.1.1.1.1.2, ⟨hk.1.1.1.2, ⟨hk.1.1.2, hk.1.2⟩⟩⟩⟩)))⟩
      have ny4 : Aside0 (Kd.R (Kd.int .i64) 3 ((wz14.setCell ⟨gbz4, 0, none⟩ (.int .i64 t130)).setCell ⟨gbz4, 1, none⟩ (.slice Aoz1 t131.length coz1)) w.heap.size (fun _ => True) (.slice Aoz1 t131.length coz1) t131) := ⟨(rT (h := by exact Kd.R_mono (Kd.R_far (p := ⟨gbz4, 1, none⟩) (Kd.R_far (p := ⟨gbz4, 0, none⟩) (Kd.R_types HOz4.out BKz4.out (by decide)) (fun _ hk => hk.2) (.int .i64 t130)) (fun _ hk => hk.2) (.slice Aoz1 t131.length coz1)) (fun _ hk => trivial)))⟩
      have ny5 : Aside0 (((wz14.setCell ⟨gbz4, 0, none⟩ (.int .i64 t130)).setCell ⟨gbz4, 1, none⟩ (.slice Aoz1 t131.length coz1)).heap[gbz1]? = some (.cells #[.int .i64 t102, .int .i64 t103, .int .i64 t104] 23 (0, 0))) := ⟨(bF BKz1.out)⟩
      have ny6 : Aside0 (((wz14.setCell ⟨gbz4, 0, none⟩ (.int .i64 t130)).setCell ⟨gbz4, 1, none⟩ (.slice Aoz1 t131.length coz1)).heap[gbz2]? = some (.cells #[.int .i64 t108, .int .i64 t109, .int .i64 t110] 23 (0, 0))) := ⟨(bF BKz2.out)⟩
      have ny7 : Aside0 (((wz14.setCell ⟨gbz4, 0, none⟩ (.int .i64 t130)).setCell ⟨gbz4, 1, none⟩ (.slice Aoz1 t131.length coz1)).heap[gbz3]? = some (.cells #[.int .i64 t113, .int .i64 t114, .int .i64 t115] 23 (0, 0))) := ⟨(bF BKz3.out)⟩
      have ny8 : Aside0 (((wz14.setCell ⟨gbz4, 0, none⟩ (.int .i64 t130)).setCell ⟨gbz4, 1, none⟩ (.slice Aoz1 t131.length coz1)).heap[gbz4]? = some (.cells #[.int .i64 t130, .slice Aoz1 t131.length coz1] 41 (0, 0))) := ⟨(bP BKz4.out)⟩
      have ny9 : Aside0 (Below w.heap.size w ((wz14.setCell ⟨gbz4, 0, none⟩ (.int .i64 t130)).setCell ⟨gbz4, 1, none⟩ (.slice Aoz1 t131.length coz1))) := ⟨(hX HB.out)⟩
      (try clear HOz1)
      (try clear HOz2)
      (try clear HOz3)
      (try clear HOz4)
      (try clear BKz1)
      (try clear BKz2)
      (try clear BKz3)
      (try clear BKz4)
      (try clear HB)
      generalize ((wz14.setCell ⟨gbz4, 0, none⟩ (.int .i64 t130)).setCell ⟨gbz4, 1, none⟩ (.slice Aoz1 t131.length coz1)) = wy1 at ny1 ny2 ny3 ny4 ny5 ny6 ny7 ny8 ny9 ⊢
      have HOz1 := ny1
      have HOz2 := ny2
      have HOz3 := ny3
      have HOz4 := ny4
      have BKz1 := ny5
      have BKz2 := ny6
      have BKz3 := ny7
      have BKz4 := ny8
      have HB := ny9
      clear ny1 ny2 ny3 ny4 ny5 ny6 ny7 ny8 ny9
      replace HOz1 := aM (Kd.R_drew HOz1.out)
      replace HOz2 := aM (Kd.R_drew HOz2.out)
      replace HOz3 := aM (Kd.R_drew HOz3.out)
      replace HOz4 := aM (Kd.R_drew HOz4.out)
      have hcb0_ := cV3 BKz1.out
      refine sR0 40 laws_FnTexts.tab13 laws_FnTexts.bits13 (fun HT_ HW_ hHeld => ?_)
      refine zA 0 ?_
      refine tA 1 ?_
      refine eB 2 Tryd.func21 (spec_OpText.calls _ _ _ _ _ _ A40.out) (fun wy3 hb hHeld => ?_)
      replace HOz1 := aQ HOz1 hb
      replace HOz2 := aQ HOz2 hb
      replace HOz3 := aQ HOz3 hb
      replace HOz4 := aQ HOz4 hb
      replace BKz1 := aB BKz1 hb
      replace BKz2 := aB BKz2 hb
      replace BKz3 := aB BKz3 hb
      replace BKz4 := aB BKz4 hb
      replace HB := aS HB hb
      (try clear hb)
      (try clear hb2)
      (try clear hk)
      (try clear hi)
      refine zA 3 ?_
      refine zA 4 ?_
      refine uA 5 ?_
      refine uA 6 ?_
      refine uA 7 ?_
      refine zA 8 ?_
      refine zA 9 ?_
      refine uA 10 ?_
      refine uA 11 ?_
      refine uA 12 ?_
      refine zA 13 ?_
      refine zA 14 ?_
      refine uA 15 ?_
      refine uA 16 ?_
      refine uA 17 ?_
      refine uA 18 ?_
      refine uA 19 ?_
      refine zA 20 ?_
      refine zA 21 ?_
      refine uA 22 ?_
      refine uA 23 ?_
      refine uA 24 ?_
      refine zA 25 ?_
      refine zA 26 ?_
      refine uA 27 ?_
      refine uA 28 ?_
      refine uA 29 ?_
      refine uA 30 ?_
      refine uA 31 ?_
      refine zA 32 ?_
      refine zA 33 ?_
      refine uA 34 ?_
      refine uA 35 ?_
      refine uA 36 ?_
      refine uA 37 ?_
      refine uA 38 ?_
      refine zA 39 ?_
      refine dA ?_
      try go_wp2
      go_meet
      case rel => exact ⟨_, (true), rS, H', ⟨by first | omega | exact Nat.le_refl _⟩, ⟨(rT (h := by exact Kd.R_mono HOz2.out (fun _ hk => ⟨hk.2.1, ⟨hk.2.2.1, ⟨hk.2.2.2.1, hk.2.2.2.2⟩⟩⟩)))⟩, ⟨(rT (h := by exact Kd.R_mono HOz3.out (fun _ hk => ⟨hk.2.1, ⟨hk.2.2.1, ⟨hk.2.2.2.1, hk.2.2.2.2⟩⟩⟩)))⟩, ⟨(rX HOz4.out)⟩, ⟨(bX BKz1.out)⟩, ⟨(bX BKz2.out)⟩, ⟨(bX BKz3.out)⟩, ⟨(bX BKz4.out)⟩, ⟨(hX HB.out)⟩⟩
    rw [if_pos c41] at H
    obtain ⟨c41b0, c41b1⟩ := eqT c41
    clear c41
    (first | rw [c41b0] | (simp only [i64_w, i32_w]; rw [c41b0]) | skip)
    by_cases c42 : (!(t108 == t113) || (!(t109 == t114) || (!(t110 == t115)))) = true
    · rw [if_pos c42] at H
      have c42b0 : (!(t108 == t113) || (!(t109 == t114) || (!(t110 == t115)))) = true := c42
      clear c42
      have H' := aM H
      clear H
      try go_wp2
      have ny1 : Aside0 (Kd.R k23 23 ((wz14.setCell ⟨gbz4, 0, none⟩ (.int .i64 t130)).setCell ⟨gbz4, 1, none⟩ (.slice Aoz1 t131.length coz1)) w.heap.size (fun k_ => some k_ ≠ (vz2 : Value).ownBlock ∧ some k_ ≠ (vz3 : Value).ownBlock ∧ k_ ≠ gbz1 ∧ k_ ≠ gbz2 ∧ k_ ≠ gbz3) vz1 t118) := ⟨(rT (h := by exact Kd.R_mono (Kd.R_far (p := ⟨gbz4, 1, none⟩) (Kd.R_far (p := ⟨gbz4, 0, none⟩) (Kd.R_types HOz1.out BKz4.out (by decide)) (fun _ hk => hk.2) (.int .i64 t130)) (fun _ hk => hk.2) (.slice Aoz1 t131.length coz1)) (fun _ hk => ⟨hk.1.1.2, ⟨hk.1.2, ⟨hk.1.1.1.1.1.2, ⟨hk.1.1.1.1.2, hk.1.1.1.2⟩⟩⟩⟩)))⟩
      have ny2 : Aside0 (Kd.R k23 23 ((wz14.setCell ⟨gbz4, 0, none⟩ (.int .i64 t130)).setCell ⟨gbz4, 1, none⟩ (.slice Aoz1 t131.length coz1)) w.heap.size (fun k_ => some k_ ≠ (vz1 : Value).ownBlock ∧ some k_ ≠ (vz3 : Value).ownBlock ∧ k_ ≠ gbz1 ∧ k_ ≠ gbz2 ∧ k_ ≠ gbz3) vz2 t122) := ⟨(rT (h := by exact Kd.R_mono (Kd.R_far (p := ⟨gbz4, 1, none⟩) (Kd.R_far (p := ⟨gbz4, 0, none⟩) (Kd.R_types HOz2.out BKz4.out (by decide)) (fun _ hk => hk.2) (.int .i64 t130)) (fun _ hk => hk.2) (.slice Aoz1 t131.length coz1)) (fun _ hk => ⟨hk.1.1.1.1.1.2, ⟨hk.1.2, ⟨hk.1.1.1.1.2, ⟨hk.1.1.1.2, hk.1.1.2⟩⟩⟩⟩)))⟩
      have ny3 : Aside0 (Kd.R k23 23 ((wz14.setCell ⟨gbz4, 0, none⟩ (.int .i64 t130)).setCell ⟨gbz4, 1, none⟩ (.slice Aoz1 t131.length coz1)) w.heap.size (fun k_ => some k_ ≠ (vz1 : Value).ownBlock ∧ some k_ ≠ (vz2 : Value).ownBlock ∧ k_ ≠ gbz1 ∧ k_ ≠ gbz2 ∧ k_ ≠ gbz3) vz3 t126) := ⟨(rT (h := by exact Kd.R_mono (Kd.R_far (p := ⟨gbz4, 1, none⟩) (Kd.R_far (p := ⟨gbz4, 0, none⟩) (Kd.R_types HOz3.out BKz4.out (by decide)) (fun _ hk => hk.2) (.int .i64 t130)) (fun _ hk => hk.2) (.slice Aoz1 t131.length coz1)) (fun _ hk => ⟨hk.1.1.1.1.1.2, ⟨hk.1.1.1.1.2, ⟨hk.1.1.1.2, ⟨hk.1.1.2, hk.1.2⟩⟩⟩⟩)))⟩
      have ny4 : Aside0 (Kd.R (Kd.int .i64) 3 ((wz14.setCell ⟨gbz4, 0, none⟩ (.int .i64 t130)).setCell ⟨gbz4, 1, none⟩ (.slice Aoz1 t131.length coz1)) w.heap.size (fun _ => True) (.slice Aoz1 t131.length coz1) t131) := ⟨(rT (h := by exact Kd.R_mono (Kd.R_far (p := ⟨gbz4, 1, none⟩) (Kd.R_far (p := ⟨gbz4, 0, none⟩) (Kd.R_types HOz4.out BKz4.out (by decide)) (fun _ hk => hk.2) (.int .i64 t130)) (fun _ hk => hk.2) (.slice Aoz1 t131.length coz1)) (fun _ hk => trivial)))⟩
      have ny5 : Aside0 (((wz14.setCell ⟨gbz4, 0, none⟩ (.int .i64 t130)).setCell ⟨gbz4, 1, none⟩ (.slice Aoz1 t131.length coz1)).heap[gbz1]? = some (.cells #[.int .i64 t102, .int .i64 t103, .int .i64 t104] 23 (0, 0))) := ⟨(bF BKz1.out)⟩
      have ny6 : Aside0 (((wz14.setCell ⟨gbz4, 0, none⟩ (.int .i64 t130)).setCell ⟨gbz4, 1, none⟩ (.slice Aoz1 t131.length coz1)).heap[gbz2]? = some (.cells #[.int .i64 t108, .int .i64 t109, .int .i64 t110] 23 (0, 0))) := ⟨(bF BKz2.out)⟩
      have ny7 : Aside0 (((wz14.setCell ⟨gbz4, 0, none⟩ (.int .i64 t130)).setCell ⟨gbz4, 1, none⟩ (.slice Aoz1 t131.length coz1)).heap[gbz3]? = some (.cells #[.int .i64 t113, .int .i64 t114, .int .i64 t115] 23 (0, 0))) := ⟨(bF BKz3.out)⟩
      have ny8 : Aside0 (((wz14.setCell ⟨gbz4, 0, none⟩ (.int .i64 t130)).setCell ⟨gbz4, 1, none⟩ (.slice Aoz1 t131.length coz1)).heap[gbz4]? = some (.cells #[.int .i64 t130, .slice Aoz1 t131.length coz1] 41 (0, 0))) := ⟨(bP BKz4.out)⟩
      have ny9 : Aside0 (Below w.heap.size w ((wz14.setCell ⟨gbz4, 0, none⟩ (.int .i64 t130)).setCell ⟨gbz4, 1, none⟩ (.slice Aoz1 t131.length coz1))) := ⟨(hX HB.out)⟩
      (try clear HOz1)
      (try clear HOz2)
      (try clear HOz3)
      (try clear HOz4)
      (try clear BKz1)
      (try clear BKz2)
      (try clear BKz3)
      (try clear BKz4)
      (try clear HB)
      generalize ((wz14.setCell ⟨gbz4, 0, none⟩ (.int .i64 t130)).setCell ⟨gbz4, 1, none⟩ (.slice Aoz1 t131.length coz1)) = wy1 at ny1 ny2 ny3 ny4 ny5 ny6 ny7 ny8 ny9 ⊢
      have HOz1 := ny1
      have HOz2 := ny2
      have HOz3 := ny3
      have HOz4 := ny4
      have BKz1 := ny5
      have BKz2 := ny6
      have BKz3 := ny7
      have BKz4 := ny8
      have HB := ny9
      clear ny1 ny2 ny3 ny4 ny5 ny6 ny7 ny8 ny9
      replace HOz1 := aM (Kd.R_drew HOz1.out)
      replace HOz2 := aM (Kd.R_drew HOz2.out)
      replace HOz3 := aM (Kd.R_drew HOz3.out)
      replace HOz4 := aM (Kd.R_drew HOz4.out)
      have hcb0_ := cV3 BKz1.out
      have hcb1_ := cV3 BKz2.out
      have hcb2_ := cV3 BKz3.out
      refine sR0 40 laws_FnTexts.tab13 laws_FnTexts.bits13 (fun HT_ HW_ hHeld => ?_)
      refine zA 0 ?_
      refine tA 1 ?_
      refine eB 2 Tryd.func21 (spec_OpText.calls _ _ _ _ _ _ A40.out) (fun wy3 hb hHeld => ?_)
      replace HOz1 := aQ HOz1 hb
      replace HOz2 := aQ HOz2 hb
      replace HOz3 := aQ HOz3 hb
      replace HOz4 := aQ HOz4 hb
      replace BKz1 := aB BKz1 hb
      replace BKz2 := aB BKz2 hb
      replace BKz3 := aB BKz3 hb
      replace BKz4 := aB BKz4 hb
      replace HB := aS HB hb
      (try clear hb)
      (try clear hb2)
      (try clear hk)
      (try clear hi)
      refine zA 3 ?_
      refine zA 4 ?_
      refine tA 5 ?_
      refine tA 6 ?_
      refine zA 7 ?_
      refine zA 8 ?_
      refine zA 9 ?_
      refine uA 10 ?_
      refine uA 11 ?_
      refine uA 12 ?_
      refine zA 13 ?_
      refine zA 14 ?_
      refine uA 15 ?_
      refine uA 16 ?_
      refine uA 17 ?_
      refine uA 18 ?_
      refine uA 19 ?_
      refine zA 20 ?_
      refine zA 21 ?_
      refine uA 22 ?_
      refine uA 23 ?_
      refine uA 24 ?_
      refine zA 25 ?_
      refine zA 26 ?_
      refine uA 27 ?_
      refine uA 28 ?_
      refine uA 29 ?_
      refine uA 30 ?_
      refine uA 31 ?_
      refine zA 32 ?_
      refine zA 33 ?_
      refine uA 34 ?_
      refine uA 35 ?_
      refine uA 36 ?_
      refine uA 37 ?_
      refine uA 38 ?_
      refine zA 39 ?_
      refine dA ?_
      try go_wp2
      go_meet
      case rel => exact ⟨_, (true), rS, H', ⟨by first | omega | exact Nat.le_refl _⟩, ⟨(rT (h := by exact Kd.R_mono HOz2.out (fun _ hk => ⟨hk.2.1, ⟨hk.2.2.1, ⟨hk.2.2.2.1, hk.2.2.2.2⟩⟩⟩)))⟩, ⟨(rT (h := by exact Kd.R_mono HOz3.out (fun _ hk => ⟨hk.2.1, ⟨hk.2.2.1, ⟨hk.2.2.2.1, hk.2.2.2.2⟩⟩⟩)))⟩, ⟨(rX HOz4.out)⟩, ⟨(bX BKz1.out)⟩, ⟨(bX BKz2.out)⟩, ⟨(bX BKz3.out)⟩, ⟨(bX BKz4.out)⟩, ⟨(hX HB.out)⟩⟩
    rw [if_neg c42] at H
    have c42b0 : (!(t108 == t113) || (!(t109 == t114) || (!(t110 == t115)))) = false := by simpa using c42
    clear c42
    by_cases c46 : (t111 != t116) = true
    · rw [if_pos c46] at H
      have c46b0 : (t111 != t116) = true := c46
      (try (have c46b1 : decide (t111 = t116) = false := by simpa using c46))
      (try (have c46b2 : (t111 == t116) = false := by simpa using c46))
      (try (have c46b3 : ¬ (t111 = t116) := by simpa using c46))
      clear c46
      have H' := aM H
      clear H
      try go_wp2
      have ny1 : Aside0 (Kd.R k23 23 ((wz14.setCell ⟨gbz4, 0, none⟩ (.int .i64 t130)).setCell ⟨gbz4, 1, none⟩ (.slice Aoz1 t131.length coz1)) w.heap.size (fun k_ => some k_ ≠ (vz2 : Value).ownBlock ∧ some k_ ≠ (vz3 : Value).ownBlock ∧ k_ ≠ gbz1 ∧ k_ ≠ gbz2 ∧ k_ ≠ gbz3) vz1 t118) := ⟨(rT (h := by exact Kd.R_mono (Kd.R_far (p := ⟨gbz4, 1, none⟩) (Kd.R_far (p := ⟨gbz4, 0, none⟩) (Kd.R_types HOz1.out BKz4.out (by decide)) (fun _ hk => hk.2) (.int .i64 t130)) (fun _ hk => hk.2) (.slice Aoz1 t131.length coz1)) (fun _ hk => ⟨hk.1.1.2, ⟨hk.1.2, ⟨hk.1.1.1.1.1.2, ⟨hk.1.1.1.1.2, hk.1.1.1.2⟩⟩⟩⟩)))⟩
      have ny2 : Aside0 (Kd.R k23 23 ((wz14.setCell ⟨gbz4, 0, none⟩ (.int .i64 t130)).setCell ⟨gbz4, 1, none⟩ (.slice Aoz1 t131.length coz1)) w.heap.size (fun k_ => some k_ ≠ (vz1 : Value).ownBlock ∧ some k_ ≠ (vz3 : Value).ownBlock ∧ k_ ≠ gbz1 ∧ k_ ≠ gbz2 ∧ k_ ≠ gbz3) vz2 t122) := ⟨(rT (h := by exact Kd.R_mono (Kd.R_far (p := ⟨gbz4, 1, none⟩) (Kd.R_far (p := ⟨gbz4, 0, none⟩) (Kd.R_types HOz2.out BKz4.out (by decide)) (fun _ hk => hk.2) (.int .i64 t130)) (fun _ hk => hk.2) (.slice Aoz1 t131.length coz1)) (fun _ hk => ⟨hk.1.1.1.1.1.2, ⟨hk.1.2, ⟨hk.1.1.1.1.2, ⟨hk.1.1.1.2, hk.1.1.2⟩⟩⟩⟩)))⟩
      have ny3 : Aside0 (Kd.R k23 23 ((wz14.setCell ⟨gbz4, 0, none⟩ (.int .i64 t130)).setCell ⟨gbz4, 1, none⟩ (.slice Aoz1 t131.length coz1)) w.heap.size (fun k_ => some k_ ≠ (vz1 : Value).ownBlock ∧ some k_ ≠ (vz2 : Value).ownBlock ∧ k_ ≠ gbz1 ∧ k_ ≠ gbz2 ∧ k_ ≠ gbz3) vz3 t126) := ⟨(rT (h := by exact Kd.R_mono (Kd.R_far (p := ⟨gbz4, 1, none⟩) (Kd.R_far (p := ⟨gbz4, 0, none⟩) (Kd.R_types HOz3.out BKz4.out (by decide)) (fun _ hk => hk.2) (.int .i64 t130)) (fun _ hk => hk.2) (.slice Aoz1 t131.length coz1)) (fun _ hk => ⟨hk.1.1.1.1.1.2, ⟨hk.1.1.1.1.2, ⟨hk.1.1.1.2, ⟨hk.1.1.2, hk.1.2⟩⟩⟩⟩)))⟩
      have ny4 : Aside0 (Kd.R (Kd.int .i64) 3 ((wz14.setCell ⟨gbz4, 0, none⟩ (.int .i64 t130)).setCell ⟨gbz4, 1, none⟩ (.slice Aoz1 t131.length coz1)) w.heap.size (fun _ => True) (.slice Aoz1 t131.length coz1) t131) := ⟨(rT (h := by exact Kd.R_mono (Kd.R_far (p := ⟨gbz4, 1, none⟩) (Kd.R_far (p := ⟨gbz4, 0, none⟩) (Kd.R_types HOz4.out BKz4.out (by decide)) (fun _ hk => hk.2) (.int .i64 t130)) (fun _ hk => hk.2) (.slice Aoz1 t131.length coz1)) (fun _ hk => trivial)))⟩
      have ny5 : Aside0 (((wz14.setCell ⟨gbz4, 0, none⟩ (.int .i64 t130)).setCell ⟨gbz4, 1, none⟩ (.slice Aoz1 t131.length coz1)).heap[gbz1]? = some (.cells #[.int .i64 t102, .int .i64 t103, .int .i64 t104] 23 (0, 0))) := ⟨(bF BKz1.out)⟩
      have ny6 : Aside0 (((wz14.setCell ⟨gbz4, 0, none⟩ (.int .i64 t130)).setCell ⟨gbz4, 1, none⟩ (.slice Aoz1 t131.length coz1)).heap[gbz2]? = some (.cells #[.int .i64 t108, .int .i64 t109, .int .i64 t110] 23 (0, 0))) := ⟨(bF BKz2.out)⟩
      have ny7 : Aside0 (((wz14.setCell ⟨gbz4, 0, none⟩ (.int .i64 t130)).setCell ⟨gbz4, 1, none⟩ (.slice Aoz1 t131.length coz1)).heap[gbz3]? = some (.cells #[.int .i64 t113, .int .i64 t114, .int .i64 t115] 23 (0, 0))) := ⟨(bF BKz3.out)⟩
      have ny8 : Aside0 (((wz14.setCell ⟨gbz4, 0, none⟩ (.int .i64 t130)).setCell ⟨gbz4, 1, none⟩ (.slice Aoz1 t131.length coz1)).heap[gbz4]? = some (.cells #[.int .i64 t130, .slice Aoz1 t131.length coz1] 41 (0, 0))) := ⟨(bP BKz4.out)⟩
      have ny9 : Aside0 (Below w.heap.size w ((wz14.setCell ⟨gbz4, 0, none⟩ (.int .i64 t130)).setCell ⟨gbz4, 1, none⟩ (.slice Aoz1 t131.length coz1))) := ⟨(hX HB.out)⟩
      (try clear HOz1)
      (try clear HOz2)
      (try clear HOz3)
      (try clear HOz4)
      (try clear BKz1)
      (try clear BKz2)
      (try clear BKz3)
      (try clear BKz4)
      (try clear HB)
      generalize ((wz14.setCell ⟨gbz4, 0, none⟩ (.int .i64 t130)).setCell ⟨gbz4, 1, none⟩ (.slice Aoz1 t131.length coz1)) = wy1 at ny1 ny2 ny3 ny4 ny5 ny6 ny7 ny8 ny9 ⊢
      have HOz1 := ny1
      have HOz2 := ny2
      have HOz3 := ny3
      have HOz4 := ny4
      have BKz1 := ny5
      have BKz2 := ny6
      have BKz3 := ny7
      have BKz4 := ny8
      have HB := ny9
      clear ny1 ny2 ny3 ny4 ny5 ny6 ny7 ny8 ny9
      replace HOz1 := aM (Kd.R_drew HOz1.out)
      replace HOz2 := aM (Kd.R_drew HOz2.out)
      replace HOz3 := aM (Kd.R_drew HOz3.out)
      replace HOz4 := aM (Kd.R_drew HOz4.out)
      have hcb0_ := cV3 BKz1.out
      have hcb1_ := cV3 BKz2.out
      have hcb2_ := cV3 BKz3.out
      refine sR0 40 laws_FnTexts.tab13 laws_FnTexts.bits13 (fun HT_ HW_ hHeld => ?_)
      refine zA 0 ?_
      refine tA 1 ?_
      refine eB 2 Tryd.func21 (spec_OpText.calls _ _ _ _ _ _ A40.out) (fun wy3 hb hHeld => ?_)
      replace HOz1 := aQ HOz1 hb
      replace HOz2 := aQ HOz2 hb
      replace HOz3 := aQ HOz3 hb
      replace HOz4 := aQ HOz4 hb
      replace BKz1 := aB BKz1 hb
      replace BKz2 := aB BKz2 hb
      replace BKz3 := aB BKz3 hb
      replace BKz4 := aB BKz4 hb
      replace HB := aS HB hb
      (try clear hb)
      (try clear hb2)
      (try clear hk)
      (try clear hi)
      refine zA 3 ?_
      refine zA 4 ?_
      refine tA 5 ?_
      refine tA 6 ?_
      refine zA 7 ?_
      refine zA 8 ?_
      refine zA 9 ?_
      refine zA 10 ?_
      refine zA 11 ?_
      refine zA 12 ?_
      refine zA 13 ?_
      refine zA 14 ?_
      refine uA 15 ?_
      refine uA 16 ?_
      refine uA 17 ?_
      refine uA 18 ?_
      refine uA 19 ?_
      refine zA 20 ?_
      refine zA 21 ?_
      refine uA 22 ?_
      refine uA 23 ?_
      refine uA 24 ?_
      refine zA 25 ?_
      refine zA 26 ?_
      refine uA 27 ?_
      refine uA 28 ?_
      refine uA 29 ?_
      refine uA 30 ?_
      refine uA 31 ?_
      refine zA 32 ?_
      refine zA 33 ?_
      refine uA 34 ?_
      refine uA 35 ?_
      refine uA 36 ?_
      refine uA 37 ?_
      refine uA 38 ?_
      refine zA 39 ?_
      refine dA ?_
      try go_wp2
      go_meet
      case rel => exact ⟨_, (true), rS, H', ⟨by first | omega | exact Nat.le_refl _⟩, ⟨(rT (h := by exact Kd.R_mono HOz2.out (fun _ hk => ⟨hk.2.1, ⟨hk.2.2.1, ⟨hk.2.2.2.1, hk.2.2.2.2⟩⟩⟩)))⟩, ⟨(rT (h := by exact Kd.R_mono HOz3.out (fun _ hk => ⟨hk.2.1, ⟨hk.2.2.1, ⟨hk.2.2.2.1, hk.2.2.2.2⟩⟩⟩)))⟩, ⟨(rX HOz4.out)⟩, ⟨(bX BKz1.out)⟩, ⟨(bX BKz2.out)⟩, ⟨(bX BKz3.out)⟩, ⟨(bX BKz4.out)⟩, ⟨(hX HB.out)⟩⟩
    rw [if_neg c46] at H
    have c46b0 : (t111 != t116) = false := by simpa using c46
    (try (have c46b1 : decide (t111 = t116) = true := by simpa using c46))
    (try (have c46b2 : (t111 == t116) = true := by simpa using c46))
    clear c46
    replace H := bE H; obtain ⟨t136, A50, H⟩ := H
    replace H := bE H; obtain ⟨t137, A51, H⟩ := H
    by_cases c52 : t136.toList = t137.toList
    case neg =>
      rw [if_neg c52] at H
      obtain ⟨c52b0, c52b1⟩ := eqF c52
      have H' := aM H
      clear H
      try go_wp2
      have ny1 : Aside0 (Kd.R k23 23 ((wz14.setCell ⟨gbz4, 0, none⟩ (.int .i64 t130)).setCell ⟨gbz4, 1, none⟩ (.slice Aoz1 t131.length coz1)) w.heap.size (fun k_ => some k_ ≠ (vz2 : Value).ownBlock ∧ some k_ ≠ (vz3 : Value).ownBlock ∧ k_ ≠ gbz1 ∧ k_ ≠ gbz2 ∧ k_ ≠ gbz3) vz1 t118) := ⟨(rT (h := by exact Kd.R_mono (Kd.R_far (p := ⟨gbz4, 1, none⟩) (Kd.R_far (p := ⟨gbz4, 0, none⟩) (Kd.R_types HOz1.out BKz4.out (by decide)) (fun _ hk => hk.2) (.int .i64 t130)) (fun _ hk => hk.2) (.slice Aoz1 t131.length coz1)) (fun _ hk => ⟨hk.1.1.2, ⟨hk.1.2, ⟨hk.1.1.1.1.1.2, ⟨hk.1.1.1.1.2, hk.1.1.1.2⟩⟩⟩⟩)))⟩
      have ny2 : Aside0 (Kd.R k23 23 ((wz14.setCell ⟨gbz4, 0, none⟩ (.int .i64 t130)).setCell ⟨gbz4, 1, none⟩ (.slice Aoz1 t131.length coz1)) w.heap.size (fun k_ => some k_ ≠ (vz1 : Value).ownBlock ∧ some k_ ≠ (vz3 : Value).ownBlock ∧ k_ ≠ gbz1 ∧ k_ ≠ gbz2 ∧ k_ ≠ gbz3) vz2 t122) := ⟨(rT (h := by exact Kd.R_mono (Kd.R_far (p := ⟨gbz4, 1, none⟩) (Kd.R_far (p := ⟨gbz4, 0, none⟩) (Kd.R_types HOz2.out BKz4.out (by decide)) (fun _ hk => hk.2) (.int .i64 t130)) (fun _ hk => hk.2) (.slice Aoz1 t131.length coz1)) (fun _ hk => ⟨hk.1.1.1.1.1.2, ⟨hk.1.2, ⟨hk.1.1.1.1.2, ⟨hk.1.1.1.2, hk.1.1.2⟩⟩⟩⟩)))⟩
      have ny3 : Aside0 (Kd.R k23 23 ((wz14.setCell ⟨gbz4, 0, none⟩ (.int .i64 t130)).setCell ⟨gbz4, 1, none⟩ (.slice Aoz1 t131.length coz1)) w.heap.size (fun k_ => some k_ ≠ (vz1 : Value).ownBlock ∧ some k_ ≠ (vz2 : Value).ownBlock ∧ k_ ≠ gbz1 ∧ k_ ≠ gbz2 ∧ k_ ≠ gbz3) vz3 t126) := ⟨(rT (h := by exact Kd.R_mono (Kd.R_far (p := ⟨gbz4, 1, none⟩) (Kd.R_far (p := ⟨gbz4, 0, none⟩) (Kd.R_types HOz3.out BKz4.out (by decide)) (fun _ hk => hk.2) (.int .i64 t130)) (fun _ hk => hk.2) (.slice Aoz1 t131.length coz1)) (fun _ hk => ⟨hk.1.1.1.1.1.2, ⟨hk.1.1.1.1.2, ⟨hk.1.1.1.2, ⟨hk.1.1.2, hk.1.2⟩⟩⟩⟩)))⟩
      have ny4 : Aside0 (Kd.R (Kd.int .i64) 3 ((wz14.setCell ⟨gbz4, 0, none⟩ (.int .i64 t130)).setCell ⟨gbz4, 1, none⟩ (.slice Aoz1 t131.length coz1)) w.heap.size (fun _ => True) (.slice Aoz1 t131.length coz1) t131) := ⟨(rT (h := by exact Kd.R_mono (Kd.R_far (p := ⟨gbz4, 1, none⟩) (Kd.R_far (p := ⟨gbz4, 0, none⟩) (Kd.R_types HOz4.out BKz4.out (by decide)) (fun _ hk => hk.2) (.int .i64 t130)) (fun _ hk => hk.2) (.slice Aoz1 t131.length coz1)) (fun _ hk => trivial)))⟩
      have ny5 : Aside0 (((wz14.setCell ⟨gbz4, 0, none⟩ (.int .i64 t130)).setCell ⟨gbz4, 1, none⟩ (.slice Aoz1 t131.length coz1)).heap[gbz1]? = some (.cells #[.int .i64 t102, .int .i64 t103, .int .i64 t104] 23 (0, 0))) := ⟨(bF BKz1.out)⟩
      have ny6 : Aside0 (((wz14.setCell ⟨gbz4, 0, none⟩ (.int .i64 t130)).setCell ⟨gbz4, 1, none⟩ (.slice Aoz1 t131.length coz1)).heap[gbz2]? = some (.cells #[.int .i64 t108, .int .i64 t109, .int .i64 t110] 23 (0, 0))) := ⟨(bF BKz2.out)⟩
      have ny7 : Aside0 (((wz14.setCell ⟨gbz4, 0, none⟩ (.int .i64 t130)).setCell ⟨gbz4, 1, none⟩ (.slice Aoz1 t131.length coz1)).heap[gbz3]? = some (.cells #[.int .i64 t113, .int .i64 t114, .int .i64 t115] 23 (0, 0))) := ⟨(bF BKz3.out)⟩
      have ny8 : Aside0 (((wz14.setCell ⟨gbz4, 0, none⟩ (.int .i64 t130)).setCell ⟨gbz4, 1, none⟩ (.slice Aoz1 t131.length coz1)).heap[gbz4]? = some (.cells #[.int .i64 t130, .slice Aoz1 t131.length coz1] 41 (0, 0))) := ⟨(bP BKz4.out)⟩
      have ny9 : Aside0 (Below w.heap.size w ((wz14.setCell ⟨gbz4, 0, none⟩ (.int .i64 t130)).setCell ⟨gbz4, 1, none⟩ (.slice Aoz1 t131.length coz1))) := ⟨(hX HB.out)⟩
      (try clear HOz1)
      (try clear HOz2)
      (try clear HOz3)
      (try clear HOz4)
      (try clear BKz1)
      (try clear BKz2)
      (try clear BKz3)
      (try clear BKz4)
      (try clear HB)
      generalize ((wz14.setCell ⟨gbz4, 0, none⟩ (.int .i64 t130)).setCell ⟨gbz4, 1, none⟩ (.slice Aoz1 t131.length coz1)) = wy1 at ny1 ny2 ny3 ny4 ny5 ny6 ny7 ny8 ny9 ⊢
      have HOz1 := ny1
      have HOz2 := ny2
      have HOz3 := ny3
      have HOz4 := ny4
      have BKz1 := ny5
      have BKz2 := ny6
      have BKz3 := ny7
      have BKz4 := ny8
      have HB := ny9
      clear ny1 ny2 ny3 ny4 ny5 ny6 ny7 ny8 ny9
      replace HOz1 := aM (Kd.R_drew HOz1.out)
      replace HOz2 := aM (Kd.R_drew HOz2.out)
      replace HOz3 := aM (Kd.R_drew HOz3.out)
      replace HOz4 := aM (Kd.R_drew HOz4.out)
      have hcb0_ := cV3 BKz1.out
      have hcb1_ := cV3 BKz2.out
      have hcb2_ := cV3 BKz3.out
      refine sR0 40 laws_FnTexts.tab13 laws_FnTexts.bits13 (fun HT_ HW_ hHeld => ?_)
      refine zA 0 ?_
      refine tA 1 ?_
      refine eB 2 Tryd.func21 (spec_OpText.calls _ _ _ _ _ _ A40.out) (fun wy3 hb hHeld => ?_)
      replace HOz1 := aQ HOz1 hb
      replace HOz2 := aQ HOz2 hb
      replace HOz3 := aQ HOz3 hb
      replace HOz4 := aQ HOz4 hb
      replace BKz1 := aB BKz1 hb
      replace BKz2 := aB BKz2 hb
      replace BKz3 := aB BKz3 hb
      replace BKz4 := aB BKz4 hb
      replace HB := aS HB hb
      (try clear hb)
      (try clear hb2)
      (try clear hk)
      (try clear hi)
      obtain ⟨Aoy1, coy1, eoy1⟩ := Kd.R_slice HOz1.out
      (first | subst eoy1 | (injection eoy1 with f1_ f2_ f3_; have fy1 := f1_.symm; have fy2 := f3_.symm; clear f1_ f2_ f3_; subst fy1; subst fy2))
      refine zA 3 ?_
      refine zA 4 ?_
      refine tA 5 ?_
      refine tA 6 ?_
      refine zA 7 ?_
      refine zA 8 ?_
      refine zA 9 ?_
      refine zA 10 ?_
      refine zA 11 ?_
      refine zA 12 ?_
      refine zA 13 ?_
      refine zA 14 ?_
      refine zA 15 ?_
      refine zA 17 ?_
      refine eB 16 Tryd.func22 (impl_ProgText.calls k _ _ t118 t136 _ (by repeat (first | exact (Kd.R_reads' HOz1.out).2.2 | (with_reducible refine Kd.C_alloc ?_ _) | (with_reducible refine Kd.C_drewN ?_ _) | (with_reducible refine Kd.C_drew ?_))) (by exact (Kd.R_reads' HOz1.out).2.1) A50.out) (fun wy4 hb hHeld => ?_)
      replace HOz1 := aQ HOz1 hb
      replace HOz2 := aQ HOz2 hb
      replace HOz3 := aQ HOz3 hb
      replace HOz4 := aQ HOz4 hb
      replace BKz1 := aB BKz1 hb
      replace BKz2 := aB BKz2 hb
      replace BKz3 := aB BKz3 hb
      replace BKz4 := aB BKz4 hb
      replace HB := aS HB hb
      (try clear hb)
      (try clear hb2)
      (try clear hk)
      (try clear hi)
      refine eB 18 Tryd.func23 (spec_ProgText.calls k _ _ t118 t137 _ (by repeat (first | exact (Kd.R_reads' HOz1.out).2.2 | (with_reducible refine Kd.C_alloc ?_ _) | (with_reducible refine Kd.C_drewN ?_ _) | (with_reducible refine Kd.C_drew ?_))) (by exact (Kd.R_reads' HOz1.out).2.1) A51.out) (fun wy5 hb hHeld => ?_)
      replace HOz1 := aQ HOz1 hb
      replace HOz2 := aQ HOz2 hb
      replace HOz3 := aQ HOz3 hb
      replace HOz4 := aQ HOz4 hb
      replace BKz1 := aB BKz1 hb
      replace BKz2 := aB BKz2 hb
      replace BKz3 := aB BKz3 hb
      replace BKz4 := aB BKz4 hb
      replace HB := aS HB hb
      (try clear hb)
      (try clear hb2)
      (try clear hk)
      (try clear hi)
      refine zA 19 ?_
      refine zA 20 ?_
      refine zA 21 ?_
      refine uA 22 ?_
      refine uA 23 ?_
      refine uA 24 ?_
      refine zA 25 ?_
      refine zA 26 ?_
      refine uA 27 ?_
      refine uA 28 ?_
      refine uA 29 ?_
      refine uA 30 ?_
      refine uA 31 ?_
      refine zA 32 ?_
      refine zA 33 ?_
      refine uA 34 ?_
      refine uA 35 ?_
      refine uA 36 ?_
      refine uA 37 ?_
      refine uA 38 ?_
      refine zA 39 ?_
      refine dA ?_
      try go_wp2
      go_meet
      case rel => exact ⟨_, (true), rS, H', ⟨by first | omega | exact Nat.le_refl _⟩, ⟨(rT (h := by exact Kd.R_mono HOz2.out (fun _ hk => ⟨hk.2.1, ⟨hk.2.2.1, ⟨hk.2.2.2.1, hk.2.2.2.2⟩⟩⟩)))⟩, ⟨(rT (h := by exact Kd.R_mono HOz3.out (fun _ hk => ⟨hk.2.1, ⟨hk.2.2.1, ⟨hk.2.2.2.1, hk.2.2.2.2⟩⟩⟩)))⟩, ⟨(rX HOz4.out)⟩, ⟨(bX BKz1.out)⟩, ⟨(bX BKz2.out)⟩, ⟨(bX BKz3.out)⟩, ⟨(bX BKz4.out)⟩, ⟨(hX HB.out)⟩⟩
    rw [if_pos c52] at H
    obtain ⟨c52b0, c52b1⟩ := eqT c52
    clear c52
    by_cases c53 : (t123 != t127) = true
    · rw [if_pos c53] at H
      have c53b0 : (t123 != t127) = true := c53
      (try (have c53b1 : decide (t123 = t127) = false := by simpa using c53))
      (try (have c53b2 : (t123 == t127) = false := by simpa using c53))
      (try (have c53b3 : ¬ (t123 = t127) := by simpa using c53))
      clear c53
      have H' := aM H
      clear H
      try go_wp2
      have ny1 : Aside0 (Kd.R k23 23 ((wz14.setCell ⟨gbz4, 0, none⟩ (.int .i64 t130)).setCell ⟨gbz4, 1, none⟩ (.slice Aoz1 t131.length coz1)) w.heap.size (fun k_ => some k_ ≠ (vz2 : Value).ownBlock ∧ some k_ ≠ (vz3 : Value).ownBlock ∧ k_ ≠ gbz1 ∧ k_ ≠ gbz2 ∧ k_ ≠ gbz3) vz1 t118) := ⟨(rT (h := by exact Kd.R_mono (Kd.R_far (p := ⟨gbz4, 1, none⟩) (Kd.R_far (p := ⟨gbz4, 0, none⟩) (Kd.R_types HOz1.out BKz4.out (by decide)) (fun _ hk => hk.2) (.int .i64 t130)) (fun _ hk => hk.2) (.slice Aoz1 t131.length coz1)) (fun _ hk => ⟨hk.1.1.2, ⟨hk.1.2, ⟨hk.1.1.1.1.1.2, ⟨hk.1.1.1.1.2, hk.1.1.1.2⟩⟩⟩⟩)))⟩
      have ny2 : Aside0 (Kd.R k23 23 ((wz14.setCell ⟨gbz4, 0, none⟩ (.int .i64 t130)).setCell ⟨gbz4, 1, none⟩ (.slice Aoz1 t131.length coz1)) w.heap.size (fun k_ => some k_ ≠ (vz1 : Value).ownBlock ∧ some k_ ≠ (vz3 : Value).ownBlock ∧ k_ ≠ gbz1 ∧ k_ ≠ gbz2 ∧ k_ ≠ gbz3) vz2 t122) := ⟨(rT (h := by exact Kd.R_mono (Kd.R_far (p := ⟨gbz4, 1, none⟩) (Kd.R_far (p := ⟨gbz4, 0, none⟩) (Kd.R_types HOz2.out BKz4.out (by decide)) (fun _ hk => hk.2) (.int .i64 t130)) (fun _ hk => hk.2) (.slice Aoz1 t131.length coz1)) (fun _ hk => ⟨hk.1.1.1.1.1.2, ⟨hk.1.2, ⟨hk.1.1.1.1.2, ⟨hk.1.1.1.2, hk.1.1.2⟩⟩⟩⟩)))⟩
      have ny3 : Aside0 (Kd.R k23 23 ((wz14.setCell ⟨gbz4, 0, none⟩ (.int .i64 t130)).setCell ⟨gbz4, 1, none⟩ (.slice Aoz1 t131.length coz1)) w.heap.size (fun k_ => some k_ ≠ (vz1 : Value).ownBlock ∧ some k_ ≠ (vz2 : Value).ownBlock ∧ k_ ≠ gbz1 ∧ k_ ≠ gbz2 ∧ k_ ≠ gbz3) vz3 t126) := ⟨(rT (h := by exact Kd.R_mono (Kd.R_far (p := ⟨gbz4, 1, none⟩) (Kd.R_far (p := ⟨gbz4, 0, none⟩) (Kd.R_types HOz3.out BKz4.out (by decide)) (fun _ hk => hk.2) (.int .i64 t130)) (fun _ hk => hk.2) (.slice Aoz1 t131.length coz1)) (fun _ hk => ⟨hk.1.1.1.1.1.2, ⟨hk.1.1.1.1.2, ⟨hk.1.1.1.2, ⟨hk.1.1.2, hk.1.2⟩⟩⟩⟩)))⟩
      have ny4 : Aside0 (Kd.R (Kd.int .i64) 3 ((wz14.setCell ⟨gbz4, 0, none⟩ (.int .i64 t130)).setCell ⟨gbz4, 1, none⟩ (.slice Aoz1 t131.length coz1)) w.heap.size (fun _ => True) (.slice Aoz1 t131.length coz1) t131) := ⟨(rT (h := by exact Kd.R_mono (Kd.R_far (p := ⟨gbz4, 1, none⟩) (Kd.R_far (p := ⟨gbz4, 0, none⟩) (Kd.R_types HOz4.out BKz4.out (by decide)) (fun _ hk => hk.2) (.int .i64 t130)) (fun _ hk => hk.2) (.slice Aoz1 t131.length coz1)) (fun _ hk => trivial)))⟩
      have ny5 : Aside0 (((wz14.setCell ⟨gbz4, 0, none⟩ (.int .i64 t130)).setCell ⟨gbz4, 1, none⟩ (.slice Aoz1 t131.length coz1)).heap[gbz1]? = some (.cells #[.int .i64 t102, .int .i64 t103, .int .i64 t104] 23 (0, 0))) := ⟨(bF BKz1.out)⟩
      have ny6 : Aside0 (((wz14.setCell ⟨gbz4, 0, none⟩ (.int .i64 t130)).setCell ⟨gbz4, 1, none⟩ (.slice Aoz1 t131.length coz1)).heap[gbz2]? = some (.cells #[.int .i64 t108, .int .i64 t109, .int .i64 t110] 23 (0, 0))) := ⟨(bF BKz2.out)⟩
      have ny7 : Aside0 (((wz14.setCell ⟨gbz4, 0, none⟩ (.int .i64 t130)).setCell ⟨gbz4, 1, none⟩ (.slice Aoz1 t131.length coz1)).heap[gbz3]? = some (.cells #[.int .i64 t113, .int .i64 t114, .int .i64 t115] 23 (0, 0))) := ⟨(bF BKz3.out)⟩
      have ny8 : Aside0 (((wz14.setCell ⟨gbz4, 0, none⟩ (.int .i64 t130)).setCell ⟨gbz4, 1, none⟩ (.slice Aoz1 t131.length coz1)).heap[gbz4]? = some (.cells #[.int .i64 t130, .slice Aoz1 t131.length coz1] 41 (0, 0))) := ⟨(bP BKz4.out)⟩
      have ny9 : Aside0 (Below w.heap.size w ((wz14.setCell ⟨gbz4, 0, none⟩ (.int .i64 t130)).setCell ⟨gbz4, 1, none⟩ (.slice Aoz1 t131.length coz1))) := ⟨(hX HB.out)⟩
      (try clear HOz1)
      (try clear HOz2)
      (try clear HOz3)
      (try clear HOz4)
      (try clear BKz1)
      (try clear BKz2)
      (try clear BKz3)
      (try clear BKz4)
      (try clear HB)
      generalize ((wz14.setCell ⟨gbz4, 0, none⟩ (.int .i64 t130)).setCell ⟨gbz4, 1, none⟩ (.slice Aoz1 t131.length coz1)) = wy1 at ny1 ny2 ny3 ny4 ny5 ny6 ny7 ny8 ny9 ⊢
      have HOz1 := ny1
      have HOz2 := ny2
      have HOz3 := ny3
      have HOz4 := ny4
      have BKz1 := ny5
      have BKz2 := ny6
      have BKz3 := ny7
      have BKz4 := ny8
      have HB := ny9
      clear ny1 ny2 ny3 ny4 ny5 ny6 ny7 ny8 ny9
      replace HOz1 := aM (Kd.R_drew HOz1.out)
      replace HOz2 := aM (Kd.R_drew HOz2.out)
      replace HOz3 := aM (Kd.R_drew HOz3.out)
      replace HOz4 := aM (Kd.R_drew HOz4.out)
      have hcb0_ := cV3 BKz1.out
      have hcb1_ := cV3 BKz2.out
      have hcb2_ := cV3 BKz3.out
      refine sR0 40 laws_FnTexts.tab13 laws_FnTexts.bits13 (fun HT_ HW_ hHeld => ?_)
      refine zA 0 ?_
      refine tA 1 ?_
      refine eB 2 Tryd.func21 (spec_OpText.calls _ _ _ _ _ _ A40.out) (fun wy3 hb hHeld => ?_)
      replace HOz1 := aQ HOz1 hb
      replace HOz2 := aQ HOz2 hb
      replace HOz3 := aQ HOz3 hb
      replace HOz4 := aQ HOz4 hb
      replace BKz1 := aB BKz1 hb
      replace BKz2 := aB BKz2 hb
      replace BKz3 := aB BKz3 hb
      replace BKz4 := aB BKz4 hb
      replace HB := aS HB hb
      (try clear hb)
      (try clear hb2)
      (try clear hk)
      (try clear hi)
      obtain ⟨Aoy1, coy1, eoy1⟩ := Kd.R_slice HOz1.out
      (first | subst eoy1 | (injection eoy1 with f1_ f2_ f3_; have fy1 := f1_.symm; have fy2 := f3_.symm; clear f1_ f2_ f3_; subst fy1; subst fy2))
      refine zA 3 ?_
      refine zA 4 ?_
      refine tA 5 ?_
      refine tA 6 ?_
      refine zA 7 ?_
      refine zA 8 ?_
      refine zA 9 ?_
      refine zA 10 ?_
      refine zA 11 ?_
      refine zA 12 ?_
      refine zA 13 ?_
      refine zA 14 ?_
      refine zA 15 ?_
      refine zA 17 ?_
      refine eB 16 Tryd.func22 (impl_ProgText.calls k _ _ t118 t136 _ (by repeat (first | exact (Kd.R_reads' HOz1.out).2.2 | (with_reducible refine Kd.C_alloc ?_ _) | (with_reducible refine Kd.C_drewN ?_ _) | (with_reducible refine Kd.C_drew ?_))) (by exact (Kd.R_reads' HOz1.out).2.1) A50.out) (fun wy4 hb hHeld => ?_)
      replace HOz1 := aQ HOz1 hb
      replace HOz2 := aQ HOz2 hb
      replace HOz3 := aQ HOz3 hb
      replace HOz4 := aQ HOz4 hb
      replace BKz1 := aB BKz1 hb
      replace BKz2 := aB BKz2 hb
      replace BKz3 := aB BKz3 hb
      replace BKz4 := aB BKz4 hb
      replace HB := aS HB hb
      (try clear hb)
      (try clear hb2)
      (try clear hk)
      (try clear hi)
      refine eB 18 Tryd.func23 (spec_ProgText.calls k _ _ t118 t137 _ (by repeat (first | exact (Kd.R_reads' HOz1.out).2.2 | (with_reducible refine Kd.C_alloc ?_ _) | (with_reducible refine Kd.C_drewN ?_ _) | (with_reducible refine Kd.C_drew ?_))) (by exact (Kd.R_reads' HOz1.out).2.1) A51.out) (fun wy5 hb hHeld => ?_)
      replace HOz1 := aQ HOz1 hb
      replace HOz2 := aQ HOz2 hb
      replace HOz3 := aQ HOz3 hb
      replace HOz4 := aQ HOz4 hb
      replace BKz1 := aB BKz1 hb
      replace BKz2 := aB BKz2 hb
      replace BKz3 := aB BKz3 hb
      replace BKz4 := aB BKz4 hb
      replace HB := aS HB hb
      (try clear hb)
      (try clear hb2)
      (try clear hk)
      (try clear hi)
      refine zA 19 ?_
      refine zA 20 ?_
      refine zA 21 ?_
      refine zA 22 ?_
      refine zA 23 ?_
      refine zA 24 ?_
      refine zA 25 ?_
      refine zA 26 ?_
      refine uA 27 ?_
      refine uA 28 ?_
      refine uA 29 ?_
      refine uA 30 ?_
      refine uA 31 ?_
      refine zA 32 ?_
      refine zA 33 ?_
      refine uA 34 ?_
      refine uA 35 ?_
      refine uA 36 ?_
      refine uA 37 ?_
      refine uA 38 ?_
      refine zA 39 ?_
      refine dA ?_
      try go_wp2
      go_meet
      case rel => exact ⟨_, (true), rS, H', ⟨by first | omega | exact Nat.le_refl _⟩, ⟨(rT (h := by exact Kd.R_mono HOz2.out (fun _ hk => ⟨hk.2.1, ⟨hk.2.2.1, ⟨hk.2.2.2.1, hk.2.2.2.2⟩⟩⟩)))⟩, ⟨(rT (h := by exact Kd.R_mono HOz3.out (fun _ hk => ⟨hk.2.1, ⟨hk.2.2.1, ⟨hk.2.2.2.1, hk.2.2.2.2⟩⟩⟩)))⟩, ⟨(rX HOz4.out)⟩, ⟨(bX BKz1.out)⟩, ⟨(bX BKz2.out)⟩, ⟨(bX BKz3.out)⟩, ⟨(bX BKz4.out)⟩, ⟨(hX HB.out)⟩⟩
    rw [if_neg c53] at H
    have c53b0 : (t123 != t127) = false := by simpa using c53
    (try (have c53b1 : decide (t123 = t127) = true := by simpa using c53))
    (try (have c53b2 : (t123 == t127) = true := by simpa using c53))
    clear c53
    by_cases c60 : (t122.length : Int) = (t126.length : Int)
    case neg =>
      rw [if_neg c60] at H
      obtain ⟨c60b0, c60b1⟩ := eqF c60
      have c60b2 : (t122.length == t126.length) = false := by first | simpa using c60 | (simp at c60 ⊢; omega)
      have H' := aM H
      clear H
      try go_wp2
      have ny1 : Aside0 (Kd.R k23 23 ((wz14.setCell ⟨gbz4, 0, none⟩ (.int .i64 t130)).setCell ⟨gbz4, 1, none⟩ (.slice Aoz1 t131.length coz1)) w.heap.size (fun k_ => some k_ ≠ (vz2 : Value).ownBlock ∧ some k_ ≠ (vz3 : Value).ownBlock ∧ k_ ≠ gbz1 ∧ k_ ≠ gbz2 ∧ k_ ≠ gbz3) vz1 t118) := ⟨(rT (h := by exact Kd.R_mono (Kd.R_far (p := ⟨gbz4, 1, none⟩) (Kd.R_far (p := ⟨gbz4, 0, none⟩) (Kd.R_types HOz1.out BKz4.out (by decide)) (fun _ hk => hk.2) (.int .i64 t130)) (fun _ hk => hk.2) (.slice Aoz1 t131.length coz1)) (fun _ hk => ⟨hk.1.1.2, ⟨hk.1.2, ⟨hk.1.1.1.1.1.2, ⟨hk.1.1.1.1.2, hk.1.1.1.2⟩⟩⟩⟩)))⟩
      have ny2 : Aside0 (Kd.R k23 23 ((wz14.setCell ⟨gbz4, 0, none⟩ (.int .i64 t130)).setCell ⟨gbz4, 1, none⟩ (.slice Aoz1 t131.length coz1)) w.heap.size (fun k_ => some k_ ≠ (vz1 : Value).ownBlock ∧ some k_ ≠ (vz3 : Value).ownBlock ∧ k_ ≠ gbz1 ∧ k_ ≠ gbz2 ∧ k_ ≠ gbz3) vz2 t122) := ⟨(rT (h := by exact Kd.R_mono (Kd.R_far (p := ⟨gbz4, 1, none⟩) (Kd.R_far (p := ⟨gbz4, 0, none⟩) (Kd.R_types HOz2.out BKz4.out (by decide)) (fun _ hk => hk.2) (.int .i64 t130)) (fun _ hk => hk.2) (.slice Aoz1 t131.length coz1)) (fun _ hk => ⟨hk.1.1.1.1.1.2, ⟨hk.1.2, ⟨hk.1.1.1.1.2, ⟨hk.1.1.1.2, hk.1.1.2⟩⟩⟩⟩)))⟩
      have ny3 : Aside0 (Kd.R k23 23 ((wz14.setCell ⟨gbz4, 0, none⟩ (.int .i64 t130)).setCell ⟨gbz4, 1, none⟩ (.slice Aoz1 t131.length coz1)) w.heap.size (fun k_ => some k_ ≠ (vz1 : Value).ownBlock ∧ some k_ ≠ (vz2 : Value).ownBlock ∧ k_ ≠ gbz1 ∧ k_ ≠ gbz2 ∧ k_ ≠ gbz3) vz3 t126) := ⟨(rT (h := by exact Kd.R_mono (Kd.R_far (p := ⟨gbz4, 1, none⟩) (Kd.R_far (p := ⟨gbz4, 0, none⟩) (Kd.R_types HOz3.out BKz4.out (by decide)) (fun _ hk => hk.2) (.int .i64 t130)) (fun _ hk => hk.2) (.slice Aoz1 t131.length coz1)) (fun _ hk => ⟨hk.1.1.1.1.1.2, ⟨hk.1.1.1.1.2, ⟨hk.1.1.1.2, ⟨hk.1.1.2, hk.1.2⟩⟩⟩⟩)))⟩
      have ny4 : Aside0 (Kd.R (Kd.int .i64) 3 ((wz14.setCell ⟨gbz4, 0, none⟩ (.int .i64 t130)).setCell ⟨gbz4, 1, none⟩ (.slice Aoz1 t131.length coz1)) w.heap.size (fun _ => True) (.slice Aoz1 t131.length coz1) t131) := ⟨(rT (h := by exact Kd.R_mono (Kd.R_far (p := ⟨gbz4, 1, none⟩) (Kd.R_far (p := ⟨gbz4, 0, none⟩) (Kd.R_types HOz4.out BKz4.out (by decide)) (fun _ hk => hk.2) (.int .i64 t130)) (fun _ hk => hk.2) (.slice Aoz1 t131.length coz1)) (fun _ hk => trivial)))⟩
      have ny5 : Aside0 (((wz14.setCell ⟨gbz4, 0, none⟩ (.int .i64 t130)).setCell ⟨gbz4, 1, none⟩ (.slice Aoz1 t131.length coz1)).heap[gbz1]? = some (.cells #[.int .i64 t102, .int .i64 t103, .int .i64 t104] 23 (0, 0))) := ⟨(bF BKz1.out)⟩
      have ny6 : Aside0 (((wz14.setCell ⟨gbz4, 0, none⟩ (.int .i64 t130)).setCell ⟨gbz4, 1, none⟩ (.slice Aoz1 t131.length coz1)).heap[gbz2]? = some (.cells #[.int .i64 t108, .int .i64 t109, .int .i64 t110] 23 (0, 0))) := ⟨(bF BKz2.out)⟩
      have ny7 : Aside0 (((wz14.setCell ⟨gbz4, 0, none⟩ (.int .i64 t130)).setCell ⟨gbz4, 1, none⟩ (.slice Aoz1 t131.length coz1)).heap[gbz3]? = some (.cells #[.int .i64 t113, .int .i64 t114, .int .i64 t115] 23 (0, 0))) := ⟨(bF BKz3.out)⟩
      have ny8 : Aside0 (((wz14.setCell ⟨gbz4, 0, none⟩ (.int .i64 t130)).setCell ⟨gbz4, 1, none⟩ (.slice Aoz1 t131.length coz1)).heap[gbz4]? = some (.cells #[.int .i64 t130, .slice Aoz1 t131.length coz1] 41 (0, 0))) := ⟨(bP BKz4.out)⟩
      have ny9 : Aside0 (Below w.heap.size w ((wz14.setCell ⟨gbz4, 0, none⟩ (.int .i64 t130)).setCell ⟨gbz4, 1, none⟩ (.slice Aoz1 t131.length coz1))) := ⟨(hX HB.out)⟩
      (try clear HOz1)
      (try clear HOz2)
      (try clear HOz3)
      (try clear HOz4)
      (try clear BKz1)
      (try clear BKz2)
      (try clear BKz3)
      (try clear BKz4)
      (try clear HB)
      generalize ((wz14.setCell ⟨gbz4, 0, none⟩ (.int .i64 t130)).setCell ⟨gbz4, 1, none⟩ (.slice Aoz1 t131.length coz1)) = wy1 at ny1 ny2 ny3 ny4 ny5 ny6 ny7 ny8 ny9 ⊢
      have HOz1 := ny1
      have HOz2 := ny2
      have HOz3 := ny3
      have HOz4 := ny4
      have BKz1 := ny5
      have BKz2 := ny6
      have BKz3 := ny7
      have BKz4 := ny8
      have HB := ny9
      clear ny1 ny2 ny3 ny4 ny5 ny6 ny7 ny8 ny9
      replace HOz1 := aM (Kd.R_drew HOz1.out)
      replace HOz2 := aM (Kd.R_drew HOz2.out)
      replace HOz3 := aM (Kd.R_drew HOz3.out)
      replace HOz4 := aM (Kd.R_drew HOz4.out)
      have hcb0_ := cV3 BKz1.out
      have hcb1_ := cV3 BKz2.out
      have hcb2_ := cV3 BKz3.out
      refine sR0 40 laws_FnTexts.tab13 laws_FnTexts.bits13 (fun HT_ HW_ hHeld => ?_)
      refine zA 0 ?_
      refine tA 1 ?_
      refine eB 2 Tryd.func21 (spec_OpText.calls _ _ _ _ _ _ A40.out) (fun wy3 hb hHeld => ?_)
      replace HOz1 := aQ HOz1 hb
      replace HOz2 := aQ HOz2 hb
      replace HOz3 := aQ HOz3 hb
      replace HOz4 := aQ HOz4 hb
      replace BKz1 := aB BKz1 hb
      replace BKz2 := aB BKz2 hb
      replace BKz3 := aB BKz3 hb
      replace BKz4 := aB BKz4 hb
      replace HB := aS HB hb
      (try clear hb)
      (try clear hb2)
      (try clear hk)
      (try clear hi)
      obtain ⟨Aoy1, coy1, eoy1⟩ := Kd.R_slice HOz1.out
      (first | subst eoy1 | (injection eoy1 with f1_ f2_ f3_; have fy1 := f1_.symm; have fy2 := f3_.symm; clear f1_ f2_ f3_; subst fy1; subst fy2))
      refine zA 3 ?_
      refine zA 4 ?_
      refine tA 5 ?_
      refine tA 6 ?_
      refine zA 7 ?_
      refine zA 8 ?_
      refine zA 9 ?_
      refine zA 10 ?_
      refine zA 11 ?_
      refine zA 12 ?_
      refine zA 13 ?_
      refine zA 14 ?_
      refine zA 15 ?_
      refine zA 17 ?_
      refine eB 16 Tryd.func22 (impl_ProgText.calls k _ _ t118 t136 _ (by repeat (first | exact (Kd.R_reads' HOz1.out).2.2 | (with_reducible refine Kd.C_alloc ?_ _) | (with_reducible refine Kd.C_drewN ?_ _) | (with_reducible refine Kd.C_drew ?_))) (by exact (Kd.R_reads' HOz1.out).2.1) A50.out) (fun wy4 hb hHeld => ?_)
      replace HOz1 := aQ HOz1 hb
      replace HOz2 := aQ HOz2 hb
      replace HOz3 := aQ HOz3 hb
      replace HOz4 := aQ HOz4 hb
      replace BKz1 := aB BKz1 hb
      replace BKz2 := aB BKz2 hb
      replace BKz3 := aB BKz3 hb
      replace BKz4 := aB BKz4 hb
      replace HB := aS HB hb
      (try clear hb)
      (try clear hb2)
      (try clear hk)
      (try clear hi)
      refine eB 18 Tryd.func23 (spec_ProgText.calls k _ _ t118 t137 _ (by repeat (first | exact (Kd.R_reads' HOz1.out).2.2 | (with_reducible refine Kd.C_alloc ?_ _) | (with_reducible refine Kd.C_drewN ?_ _) | (with_reducible refine Kd.C_drew ?_))) (by exact (Kd.R_reads' HOz1.out).2.1) A51.out) (fun wy5 hb hHeld => ?_)
      replace HOz1 := aQ HOz1 hb
      replace HOz2 := aQ HOz2 hb
      replace HOz3 := aQ HOz3 hb
      replace HOz4 := aQ HOz4 hb
      replace BKz1 := aB BKz1 hb
      replace BKz2 := aB BKz2 hb
      replace BKz3 := aB BKz3 hb
      replace BKz4 := aB BKz4 hb
      replace HB := aS HB hb
      (try clear hb)
      (try clear hb2)
      (try clear hk)
      (try clear hi)
      obtain ⟨Aoy2, coy2, eoy2⟩ := Kd.R_slice HOz2.out
      (first | subst eoy2 | (injection eoy2 with f1_ f2_ f3_; have fy1 := f1_.symm; have fy2 := f3_.symm; clear f1_ f2_ f3_; subst fy1; subst fy2))
      obtain ⟨Aoy3, coy3, eoy3⟩ := Kd.R_slice HOz3.out
      (first | subst eoy3 | (injection eoy3 with f1_ f2_ f3_; have fy1 := f1_.symm; have fy2 := f3_.symm; clear f1_ f2_ f3_; subst fy1; subst fy2))
      refine zA 19 ?_
      refine zA 20 ?_
      refine zA 21 ?_
      refine zA 22 ?_
      refine zA 23 ?_
      refine zA 24 ?_
      refine zA 25 ?_
      refine zA 26 ?_
      refine zA 27 ?_
      refine zA 28 ?_
      refine zA 29 ?_
      refine zA 30 ?_
      refine zA 31 ?_
      refine zA 32 ?_
      refine zA 33 ?_
      refine uA 34 ?_
      refine uA 35 ?_
      refine uA 36 ?_
      refine uA 37 ?_
      refine uA 38 ?_
      refine zA 39 ?_
      refine dA ?_
      try go_wp2
      go_meet
      case rel => exact ⟨_, (true), rS, H', ⟨by first | omega | exact Nat.le_refl _⟩, ⟨(rT (h := by exact Kd.R_mono HOz2.out (fun _ hk => ⟨hk.2.1, ⟨hk.2.2.1, ⟨hk.2.2.2.1, hk.2.2.2.2⟩⟩⟩)))⟩, ⟨(rT (h := by exact Kd.R_mono HOz3.out (fun _ hk => ⟨hk.2.1, ⟨hk.2.2.1, ⟨hk.2.2.2.1, hk.2.2.2.2⟩⟩⟩)))⟩, ⟨(rX HOz4.out)⟩, ⟨(bX BKz1.out)⟩, ⟨(bX BKz2.out)⟩, ⟨(bX BKz3.out)⟩, ⟨(bX BKz4.out)⟩, ⟨(hX HB.out)⟩⟩
    rw [if_pos c60] at H
    obtain ⟨c60b0, c60b1⟩ := eqT c60
    have c60b2 : (t122.length == t126.length) = true := by first | simpa using c60 | (simp at c60 ⊢; omega)
    clear c60
    replace H := bE H; obtain ⟨t138, A61, H⟩ := H
    replace H := bE H; obtain ⟨t139, A62, H⟩ := H
    have H' := aM H
    clear H
    try go_wp2
    have ny1 : Aside0 (Kd.R k23 23 ((wz14.setCell ⟨gbz4, 0, none⟩ (.int .i64 t130)).setCell ⟨gbz4, 1, none⟩ (.slice Aoz1 t131.length coz1)) w.heap.size (fun k_ => some k_ ≠ (vz2 : Value).ownBlock ∧ some k_ ≠ (vz3 : Value).ownBlock ∧ k_ ≠ gbz1 ∧ k_ ≠ gbz2 ∧ k_ ≠ gbz3) vz1 t118) := ⟨(rT (h := by exact Kd.R_mono (Kd.R_far (p := ⟨gbz4, 1, none⟩) (Kd.R_far (p := ⟨gbz4, 0, none⟩) (Kd.R_types HOz1.out BKz4.out (by decide)) (fun _ hk => hk.2) (.int .i64 t130)) (fun _ hk => hk.2) (.slice Aoz1 t131.length coz1)) (fun _ hk => ⟨hk.1.1.2, ⟨hk.1.2, ⟨hk.1.1.1.1.1.2, ⟨hk.1.1.1.1.2, hk.1.1.1.2⟩⟩⟩⟩)))⟩
    have ny2 : Aside0 (Kd.R k23 23 ((wz14.setCell ⟨gbz4, 0, none⟩ (.int .i64 t130)).setCell ⟨gbz4, 1, none⟩ (.slice Aoz1 t131.length coz1)) w.heap.size (fun k_ => some k_ ≠ (vz1 : Value).ownBlock ∧ some k_ ≠ (vz3 : Value).ownBlock ∧ k_ ≠ gbz1 ∧ k_ ≠ gbz2 ∧ k_ ≠ gbz3) vz2 t122) := ⟨(rT (h := by exact Kd.R_mono (Kd.R_far (p := ⟨gbz4, 1, none⟩) (Kd.R_far (p := ⟨gbz4, 0, none⟩) (Kd.R_types HOz2.out BKz4.out (by decide)) (fun _ hk => hk.2) (.int .i64 t130)) (fun _ hk => hk.2) (.slice Aoz1 t131.length coz1)) (fun _ hk => ⟨hk.1.1.1.1.1.2, ⟨hk.1.2, ⟨hk.1.1.1.1.2, ⟨hk.1.1.1.2, hk.1.1.2⟩⟩⟩⟩)))⟩
    have ny3 : Aside0 (Kd.R k23 23 ((wz14.setCell ⟨gbz4, 0, none⟩ (.int .i64 t130)).setCell ⟨gbz4, 1, none⟩ (.slice Aoz1 t131.length coz1)) w.heap.size (fun k_ => some k_ ≠ (vz1 : Value).ownBlock ∧ some k_ ≠ (vz2 : Value).ownBlock ∧ k_ ≠ gbz1 ∧ k_ ≠ gbz2 ∧ k_ ≠ gbz3) vz3 t126) := ⟨(rT (h := by exact Kd.R_mono (Kd.R_far (p := ⟨gbz4, 1, none⟩) (Kd.R_far (p := ⟨gbz4, 0, none⟩) (Kd.R_types HOz3.out BKz4.out (by decide)) (fun _ hk => hk.2) (.int .i64 t130)) (fun _ hk => hk.2) (.slice Aoz1 t131.length coz1)) (fun _ hk => ⟨hk.1.1.1.1.1.2, ⟨hk.1.1.1.1.2, ⟨hk.1.1.1.2, ⟨hk.1.1.2, hk.1.2⟩⟩⟩⟩)))⟩
    have ny4 : Aside0 (Kd.R (Kd.int .i64) 3 ((wz14.setCell ⟨gbz4, 0, none⟩ (.int .i64 t130)).setCell ⟨gbz4, 1, none⟩ (.slice Aoz1 t131.length coz1)) w.heap.size (fun _ => True) (.slice Aoz1 t131.length coz1) t131) := ⟨(rT (h := by exact Kd.R_mono (Kd.R_far (p := ⟨gbz4, 1, none⟩) (Kd.R_far (p := ⟨gbz4, 0, none⟩) (Kd.R_types HOz4.out BKz4.out (by decide)) (fun _ hk => hk.2) (.int .i64 t130)) (fun _ hk => hk.2) (.slice Aoz1 t131.length coz1)) (fun _ hk => trivial)))⟩
    have ny5 : Aside0 (((wz14.setCell ⟨gbz4, 0, none⟩ (.int .i64 t130)).setCell ⟨gbz4, 1, none⟩ (.slice Aoz1 t131.length coz1)).heap[gbz1]? = some (.cells #[.int .i64 t102, .int .i64 t103, .int .i64 t104] 23 (0, 0))) := ⟨(bF BKz1.out)⟩
    have ny6 : Aside0 (((wz14.setCell ⟨gbz4, 0, none⟩ (.int .i64 t130)).setCell ⟨gbz4, 1, none⟩ (.slice Aoz1 t131.length coz1)).heap[gbz2]? = some (.cells #[.int .i64 t108, .int .i64 t109, .int .i64 t110] 23 (0, 0))) := ⟨(bF BKz2.out)⟩
    have ny7 : Aside0 (((wz14.setCell ⟨gbz4, 0, none⟩ (.int .i64 t130)).setCell ⟨gbz4, 1, none⟩ (.slice Aoz1 t131.length coz1)).heap[gbz3]? = some (.cells #[.int .i64 t113, .int .i64 t114, .int .i64 t115] 23 (0, 0))) := ⟨(bF BKz3.out)⟩
    have ny8 : Aside0 (((wz14.setCell ⟨gbz4, 0, none⟩ (.int .i64 t130)).setCell ⟨gbz4, 1, none⟩ (.slice Aoz1 t131.length coz1)).heap[gbz4]? = some (.cells #[.int .i64 t130, .slice Aoz1 t131.length coz1] 41 (0, 0))) := ⟨(bP BKz4.out)⟩
    have ny9 : Aside0 (Below w.heap.size w ((wz14.setCell ⟨gbz4, 0, none⟩ (.int .i64 t130)).setCell ⟨gbz4, 1, none⟩ (.slice Aoz1 t131.length coz1))) := ⟨(hX HB.out)⟩
    (try clear HOz1)
    (try clear HOz2)
    (try clear HOz3)
    (try clear HOz4)
    (try clear BKz1)
    (try clear BKz2)
    (try clear BKz3)
    (try clear BKz4)
    (try clear HB)
    generalize ((wz14.setCell ⟨gbz4, 0, none⟩ (.int .i64 t130)).setCell ⟨gbz4, 1, none⟩ (.slice Aoz1 t131.length coz1)) = wy1 at ny1 ny2 ny3 ny4 ny5 ny6 ny7 ny8 ny9 ⊢
    have HOz1 := ny1
    have HOz2 := ny2
    have HOz3 := ny3
    have HOz4 := ny4
    have BKz1 := ny5
    have BKz2 := ny6
    have BKz3 := ny7
    have BKz4 := ny8
    have HB := ny9
    clear ny1 ny2 ny3 ny4 ny5 ny6 ny7 ny8 ny9
    replace HOz1 := aM (Kd.R_drew HOz1.out)
    replace HOz2 := aM (Kd.R_drew HOz2.out)
    replace HOz3 := aM (Kd.R_drew HOz3.out)
    replace HOz4 := aM (Kd.R_drew HOz4.out)
    have hcb0_ := cV3 BKz1.out
    have hcb1_ := cV3 BKz2.out
    have hcb2_ := cV3 BKz3.out
    have hcb3_ := cV2 BKz4.out
    refine sR0 40 laws_FnTexts.tab13 laws_FnTexts.bits13 (fun HT_ HW_ hHeld => ?_)
    refine zA 0 ?_
    refine tA 1 ?_
    refine eB 2 Tryd.func21 (spec_OpText.calls _ _ _ _ _ _ A40.out) (fun wy3 hb hHeld => ?_)
    replace HOz1 := aQ HOz1 hb
    replace HOz2 := aQ HOz2 hb
    replace HOz3 := aQ HOz3 hb
    replace HOz4 := aQ HOz4 hb
    replace BKz1 := aB BKz1 hb
    replace BKz2 := aB BKz2 hb
    replace BKz3 := aB BKz3 hb
    replace BKz4 := aB BKz4 hb
    replace HB := aS HB hb
    (try clear hb)
    (try clear hb2)
    (try clear hk)
    (try clear hi)
    obtain ⟨Aoy1, coy1, eoy1⟩ := Kd.R_slice HOz1.out
    (first | subst eoy1 | (injection eoy1 with f1_ f2_ f3_; have fy1 := f1_.symm; have fy2 := f3_.symm; clear f1_ f2_ f3_; subst fy1; subst fy2))
    refine zA 3 ?_
    refine zA 4 ?_
    refine tA 5 ?_
    refine tA 6 ?_
    refine zA 7 ?_
    refine zA 8 ?_
    refine zA 9 ?_
    refine zA 10 ?_
    refine zA 11 ?_
    refine zA 12 ?_
    refine zA 13 ?_
    refine zA 14 ?_
    refine zA 15 ?_
    refine zA 17 ?_
    refine eB 16 Tryd.func22 (impl_ProgText.calls k _ _ t118 t136 _ (by repeat (first | exact (Kd.R_reads' HOz1.out).2.2 | (with_reducible refine Kd.C_alloc ?_ _) | (with_reducible refine Kd.C_drewN ?_ _) | (with_reducible refine Kd.C_drew ?_))) (by exact (Kd.R_reads' HOz1.out).2.1) A50.out) (fun wy4 hb hHeld => ?_)
    replace HOz1 := aQ HOz1 hb
    replace HOz2 := aQ HOz2 hb
    replace HOz3 := aQ HOz3 hb
    replace HOz4 := aQ HOz4 hb
    replace BKz1 := aB BKz1 hb
    replace BKz2 := aB BKz2 hb
    replace BKz3 := aB BKz3 hb
    replace BKz4 := aB BKz4 hb
    replace HB := aS HB hb
    (try clear hb)
    (try clear hb2)
    (try clear hk)
    (try clear hi)
    refine eB 18 Tryd.func23 (spec_ProgText.calls k _ _ t118 t137 _ (by repeat (first | exact (Kd.R_reads' HOz1.out).2.2 | (with_reducible refine Kd.C_alloc ?_ _) | (with_reducible refine Kd.C_drewN ?_ _) | (with_reducible refine Kd.C_drew ?_))) (by exact (Kd.R_reads' HOz1.out).2.1) A51.out) (fun wy5 hb hHeld => ?_)
    replace HOz1 := aQ HOz1 hb
    replace HOz2 := aQ HOz2 hb
    replace HOz3 := aQ HOz3 hb
    replace HOz4 := aQ HOz4 hb
    replace BKz1 := aB BKz1 hb
    replace BKz2 := aB BKz2 hb
    replace BKz3 := aB BKz3 hb
    replace BKz4 := aB BKz4 hb
    replace HB := aS HB hb
    (try clear hb)
    (try clear hb2)
    (try clear hk)
    (try clear hi)
    obtain ⟨Aoy2, coy2, eoy2⟩ := Kd.R_slice HOz2.out
    (first | subst eoy2 | (injection eoy2 with f1_ f2_ f3_; have fy1 := f1_.symm; have fy2 := f3_.symm; clear f1_ f2_ f3_; subst fy1; subst fy2))
    obtain ⟨Aoy3, coy3, eoy3⟩ := Kd.R_slice HOz3.out
    (first | subst eoy3 | (injection eoy3 with f1_ f2_ f3_; have fy1 := f1_.symm; have fy2 := f3_.symm; clear f1_ f2_ f3_; subst fy1; subst fy2))
    refine zA 19 ?_
    refine zA 20 ?_
    refine zA 21 ?_
    refine zA 22 ?_
    refine zA 23 ?_
    refine zA 24 ?_
    refine zA 25 ?_
    refine zA 26 ?_
    refine zA 27 ?_
    refine zA 28 ?_
    refine zA 29 ?_
    refine zA 30 ?_
    refine zA 31 ?_
    refine zA 32 ?_
    refine zA 33 ?_
    refine tA 34 ?_
    refine tA 36 ?_
    refine eB 35 Tryd.func24 (impl_ResText.calls k t130 _ _ t131 t138 _ (by repeat (first | exact (Kd.R_reads' HOz4.out).2.2 | (with_reducible refine Kd.C_alloc ?_ _) | (with_reducible refine Kd.C_drewN ?_ _) | (with_reducible refine Kd.C_drew ?_))) (by exact (Kd.R_reads' HOz4.out).2.1) A61.out) (fun wy6 hb hHeld => ?_)
    replace HOz1 := aQ HOz1 hb
    replace HOz2 := aQ HOz2 hb
    replace HOz3 := aQ HOz3 hb
    replace HOz4 := aQ HOz4 hb
    replace BKz1 := aB BKz1 hb
    replace BKz2 := aB BKz2 hb
    replace BKz3 := aB BKz3 hb
    replace BKz4 := aB BKz4 hb
    replace HB := aS HB hb
    (try clear hb)
    (try clear hb2)
    (try clear hk)
    (try clear hi)
    refine eB 37 Tryd.func25 (spec_ResText.calls k t130 _ _ t131 t139 _ (by repeat (first | exact (Kd.R_reads' HOz4.out).2.2 | (with_reducible refine Kd.C_alloc ?_ _) | (with_reducible refine Kd.C_drewN ?_ _) | (with_reducible refine Kd.C_drew ?_))) (by exact (Kd.R_reads' HOz4.out).2.1) A62.out) (fun wy7 hb hHeld => ?_)
    replace HOz1 := aQ HOz1 hb
    replace HOz2 := aQ HOz2 hb
    replace HOz3 := aQ HOz3 hb
    replace HOz4 := aQ HOz4 hb
    replace BKz1 := aB BKz1 hb
    replace BKz2 := aB BKz2 hb
    replace BKz3 := aB BKz3 hb
    replace BKz4 := aB BKz4 hb
    replace HB := aS HB hb
    (try clear hb)
    (try clear hb2)
    (try clear hk)
    (try clear hi)
    refine zA 38 ?_
    refine zA 39 ?_
    refine dA ?_
    try go_wp2
    go_meet
    case rel => exact ⟨_, ((t138.toList != t139.toList)), rS, H', ⟨by first | omega | exact Nat.le_refl _⟩, ⟨(rT (h := by exact Kd.R_mono HOz2.out (fun _ hk => ⟨hk.2.1, ⟨hk.2.2.1, ⟨hk.2.2.2.1, hk.2.2.2.2⟩⟩⟩)))⟩, ⟨(rT (h := by exact Kd.R_mono HOz3.out (fun _ hk => ⟨hk.2.1, ⟨hk.2.2.1, ⟨hk.2.2.2.1, hk.2.2.2.2⟩⟩⟩)))⟩, ⟨(rX HOz4.out)⟩, ⟨(bX BKz1.out)⟩, ⟨(bX BKz2.out)⟩, ⟨(bX BKz3.out)⟩, ⟨(bX BKz4.out)⟩, ⟨(hX HB.out)⟩⟩
  case rest =>
    clear HC14
    try clear p2
    obtain ⟨kq, x93_13, rfl, HA, HJy1, HO_y1, HO_y2, HO_y3, BKz1, BKz2, BKz3, BKz4, HB⟩ := hcut
    cases kq with
    | zero => exact absurd HA.out (by simp [laws_FnTexts.j0])
    | succ kj13 =>
      have H := HA.out
      clear HA
      simp only [laws_FnTexts.j0] at H
      by_cases c90 : x93_13 = true
      · subst c90
        rw [if_pos rfl] at H
        obtain rfl := sI H
        go_wp2
        go_ret
        exact ⟨rE, (hX HB.out)⟩
      replace c90 := Bool.eq_false_iff.mpr c90
      subst c90
      rw [if_neg nft] at H
      have H' := aM H
      clear H
      go_wp2
      go_loopg [17] kj13 (fun kq v17 w' => ∃ (x17_2 : Int), v17 = .int .i64 x17_2 ∧ Aside0 (laws_FnTexts.l0 kq t106 t107 t111 t121 t122 t123 t126 x17_2 t102 t103 t104 t108 t109 t110 = some r) ∧ Aside0 (kq ≤ kj13) ∧ Aside0 (Kd.R k23 23 w' w.heap.size (fun k_ => some k_ ≠ (vz3 : Value).ownBlock ∧ k_ ≠ gbz1 ∧ k_ ≠ gbz2 ∧ k_ ≠ gbz3) vz2 t122) ∧ Aside0 (Kd.R k23 23 w' w.heap.size (fun k_ => some k_ ≠ (vz2 : Value).ownBlock ∧ k_ ≠ gbz1 ∧ k_ ≠ gbz2 ∧ k_ ≠ gbz3) vz3 t126) ∧ Aside0 (Kd.R (Kd.int .i64) 3 w' w.heap.size (fun _ => True) (.slice Aoz1 t131.length coz1) t131) ∧ Aside0 (w'.heap[gbz1]? = some (.cells #[.int .i64 t102, .int .i64 t103, .int .i64 t104] 23 (0, 0))) ∧ Aside0 (w'.heap[gbz2]? = some (.cells #[.int .i64 t108, .int .i64 t109, .int .i64 t110] 23 (0, 0))) ∧ Aside0 (w'.heap[gbz3]? = some (.cells #[.int .i64 t113, .int .i64 t114, .int .i64 t115] 23 (0, 0))) ∧ Aside0 (w'.heap[gbz4]? = some (.cells #[.int .i64 t130, (.slice Aoz1 t131.length coz1)] 41 (0, 0))) ∧ Aside0 (Below w.heap.size w w'))
      case atStart => exact ⟨(0), rS, H', ⟨Nat.le_refl _⟩, ⟨(rX HO_y1.out)⟩, ⟨(rX HO_y2.out)⟩, ⟨(rX HO_y3.out)⟩, ⟨(bX BKz1.out)⟩, ⟨(bX BKz2.out)⟩, ⟨(bX BKz3.out)⟩, ⟨(bX BKz4.out)⟩, ⟨(hX HB.out)⟩⟩
      case round =>
        clear H'
        try clear p2
        try clear c90
        obtain ⟨x17_2, rfl, HA, HKw1, HO_y1, HO_y2, HO_y3, BKz1, BKz2, BKz3, BKz4, HB⟩ := hrel
        cases gk with
        | zero => exact absurd HA.out (by simp [laws_FnTexts.l0])
        | succ k2 =>
          have H := HA.out
          clear HA
          simp only [laws_FnTexts.l0] at H
          by_cases c91 : x17_2 < (t122.length : Int)
          · rw [if_pos c91] at H
            have c91b0 := decide_eq_true c91
            clear c91
            replace H := ifP H; obtain ⟨c92, H⟩ := H
            have c92b0 := decide_eq_true c92
            clear c92
            replace H := ifP H; obtain ⟨c93, H⟩ := H
            have c93b0 := decide_eq_true c93
            clear c93
            by_cases c94 : (!(((rd_T23 t122 x17_2).f0) == ((rd_T23 t126 x17_2).f0)) || (!(((rd_T23 t122 x17_2).f1) == ((rd_T23 t126 x17_2).f1)) || (!(((rd_T23 t122 x17_2).f2) == ((rd_T23 t126 x17_2).f2))))) = true
            · rw [if_pos c94] at H
              have c94b0 : (!(((rd_T23 t122 x17_2).f0) == ((rd_T23 t126 x17_2).f0)) || (!(((rd_T23 t122 x17_2).f1) == ((rd_T23 t126 x17_2).f1)) || (!(((rd_T23 t122 x17_2).f2) == ((rd_T23 t126 x17_2).f2))))) = true := c94
              clear c94
              obtain rfl := sI H
              obtain ⟨Aov1, cov1, eov1⟩ := Kd.R_slice HO_y1.out
              subst eov1
              try go_wp2
              replace HO_y1 := aM (Kd.R_drew HO_y1.out)
              replace HO_y2 := aM (Kd.R_drew HO_y2.out)
              replace HO_y3 := aM (Kd.R_drew HO_y3.out)
              replace BKz1 := aM (blk_drew BKz1.out)
              replace BKz2 := aM (blk_drew BKz2.out)
              replace BKz3 := aM (blk_drew BKz3.out)
              replace BKz4 := aM (blk_drew BKz4.out)
              replace HB := aM (below_drew1 HB.out)
              have pv1 : 0 ≤ (x17_2 : Int) := odA
              have qv1 : x17_2 < (t122.length : Int) := odA
              obtain ⟨adv1, ev1, hxv1, hxv2, hxv3⟩ := at_T23 (Kd.R_reads' HO_y1.out).2.2 x17_2 pv1 qv1
              cases ev1
              replace pv1 := eq_true pv1
              replace qv1 := eq_true qv1
              obtain ⟨Aov2, cov2, eov2⟩ := Kd.R_slice HO_y2.out
              (first | subst eov2 | (injection eov2 with f1_ f2_ f3_; have fv1 := f1_.symm; have fv2 := f3_.symm; clear f1_ f2_ f3_; subst fv1; subst fv2))
              have pv2 : 0 ≤ (x17_2 : Int) := odA
              have qv2 : x17_2 < (t126.length : Int) := odA
              obtain ⟨adv2, ev2, hxv4, hxv5, hxv6⟩ := at_T23 (Kd.R_reads' HO_y2.out).2.2 x17_2 pv2 qv2
              cases ev2
              replace pv2 := eq_true pv2
              replace qv2 := eq_true qv2
              refine start_ (n := 9) (S := fun w' => w'.cell? (adv1.add ((x17_2).toNat * 3)) = some (.int .i64 ((rd_T23 t122 x17_2).f0)) ∧ w'.cell? ⟨(adv1.add ((x17_2).toNat * 3)).block, (adv1.add ((x17_2).toNat * 3)).off + 1, none⟩ = some (.int .i64 ((rd_T23 t122 x17_2).f1)) ∧ w'.cell? ⟨(adv1.add ((x17_2).toNat * 3)).block, (adv1.add ((x17_2).toNat * 3)).off + 2, none⟩ = some (.int .i64 ((rd_T23 t122 x17_2).f2)) ∧ w'.cell? (adv2.add ((x17_2).toNat * 3)) = some (.int .i64 ((rd_T23 t126 x17_2).f0)) ∧ w'.cell? ⟨(adv2.add ((x17_2).toNat * 3)).block, (adv2.add ((x17_2).toNat * 3)).off + 1, none⟩ = some (.int .i64 ((rd_T23 t126 x17_2).f1)) ∧ w'.cell? ⟨(adv2.add ((x17_2).toNat * 3)).block, (adv2.add ((x17_2).toNat * 3)).off + 2, none⟩ = some (.int .i64 ((rd_T23 t126 x17_2).f2))) (ds := []) (bm 9 0) (by kernel_rfl) rfl (by kernel_rfl) ⟨hxv1, hxv2, hxv3, hxv4, hxv5, hxv6⟩ (fun hHeld => ?_); refine with_tabW laws_FnTexts.tab18 laws_FnTexts.bits18 (fun HT_ HW_ => ?_)
              generalize wr.drew = wv1 at HO_y1 HO_y2 HO_y3 BKz1 BKz2 BKz3 BKz4 HB hxv1 hxv2 hxv3 hxv4 hxv5 hxv6 hHeld ⊢
              refine pZ 0 100 (bm 9 1) HT_.out ?_
              refine pZ 1 101 (bm 9 3) HT_.out ?_
              refine pZ 2 102 (bm 9 7) HT_.out ?_
              refine pZ 4 104 (bm 9 23) HT_.out ?_
              refine pZ 5 105 (bm 9 55) HT_.out ?_
              refine pZ 6 106 (bm 9 119) HT_.out ?_
              refine tZ 3 103 (bm 9 127) HT_.out HW_.out hHeld ?_
              refine tZ 7 107 (bm 9 255) HT_.out HW_.out hHeld ?_
              refine pZ 8 108 (bm 9 511) HT_.out ?_
              refine done_ (done_of HT_.out (by kernel_rfl)) ?_
              try go_wp2
              go_ret
              exact ⟨rE, (hX HB.out)⟩
            rw [if_neg c94] at H
            have c94b0 : (!(((rd_T23 t122 x17_2).f0) == ((rd_T23 t126 x17_2).f0)) || (!(((rd_T23 t122 x17_2).f1) == ((rd_T23 t126 x17_2).f1)) || (!(((rd_T23 t122 x17_2).f2) == ((rd_T23 t126 x17_2).f2))))) = false := by simpa using c94
            clear c94
            have H' := aM H
            clear H
            obtain ⟨Aov1, cov1, eov1⟩ := Kd.R_slice HO_y1.out
            subst eov1
            try go_wp2
            replace HO_y1 := aM (Kd.R_drew HO_y1.out)
            replace HO_y2 := aM (Kd.R_drew HO_y2.out)
            replace HO_y3 := aM (Kd.R_drew HO_y3.out)
            replace BKz1 := aM (blk_drew BKz1.out)
            replace BKz2 := aM (blk_drew BKz2.out)
            replace BKz3 := aM (blk_drew BKz3.out)
            replace BKz4 := aM (blk_drew BKz4.out)
            replace HB := aM (below_drew1 HB.out)
            have pv1 : 0 ≤ (x17_2 : Int) := odA
            have qv1 : x17_2 < (t122.length : Int) := odA
            obtain ⟨adv1, ev1, hxv1, hxv2, hxv3⟩ := at_T23 (Kd.R_reads' HO_y1.out).2.2 x17_2 pv1 qv1
            cases ev1
            replace pv1 := eq_true pv1
            replace qv1 := eq_true qv1
            obtain ⟨Aov2, cov2, eov2⟩ := Kd.R_slice HO_y2.out
            (first | subst eov2 | (injection eov2 with f1_ f2_ f3_; have fv1 := f1_.symm; have fv2 := f3_.symm; clear f1_ f2_ f3_; subst fv1; subst fv2))
            have pv2 : 0 ≤ (x17_2 : Int) := odA
            have qv2 : x17_2 < (t126.length : Int) := odA
            obtain ⟨adv2, ev2, hxv4, hxv5, hxv6⟩ := at_T23 (Kd.R_reads' HO_y2.out).2.2 x17_2 pv2 qv2
            cases ev2
            replace pv2 := eq_true pv2
            replace qv2 := eq_true qv2
            refine start_ (n := 9) (S := fun w' => w'.cell? (adv1.add ((x17_2).toNat * 3)) = some (.int .i64 ((rd_T23 t122 x17_2).f0)) ∧ w'.cell? ⟨(adv1.add ((x17_2).toNat * 3)).block, (adv1.add ((x17_2).toNat * 3)).off + 1, none⟩ = some (.int .i64 ((rd_T23 t122 x17_2).f1)) ∧ w'.cell? ⟨(adv1.add ((x17_2).toNat * 3)).block, (adv1.add ((x17_2).toNat * 3)).off + 2, none⟩ = some (.int .i64 ((rd_T23 t122 x17_2).f2)) ∧ w'.cell? (adv2.add ((x17_2).toNat * 3)) = some (.int .i64 ((rd_T23 t126 x17_2).f0)) ∧ w'.cell? ⟨(adv2.add ((x17_2).toNat * 3)).block, (adv2.add ((x17_2).toNat * 3)).off + 1, none⟩ = some (.int .i64 ((rd_T23 t126 x17_2).f1)) ∧ w'.cell? ⟨(adv2.add ((x17_2).toNat * 3)).block, (adv2.add ((x17_2).toNat * 3)).off + 2, none⟩ = some (.int .i64 ((rd_T23 t126 x17_2).f2))) (ds := []) (bm 9 0) (by kernel_rfl) rfl (by kernel_rfl) ⟨hxv1, hxv2, hxv3, hxv4, hxv5, hxv6⟩ (fun hHeld => ?_); refine with_tabW laws_FnTexts.tab18 laws_FnTexts.bits18 (fun HT_ HW_ => ?_)
            generalize wr.drew = wv1 at HO_y1 HO_y2 HO_y3 BKz1 BKz2 BKz3 BKz4 HB hxv1 hxv2 hxv3 hxv4 hxv5 hxv6 hHeld ⊢
            refine pZ 0 100 (bm 9 1) HT_.out ?_
            refine pZ 1 101 (bm 9 3) HT_.out ?_
            refine pZ 2 102 (bm 9 7) HT_.out ?_
            refine pZ 4 104 (bm 9 23) HT_.out ?_
            refine pZ 5 105 (bm 9 55) HT_.out ?_
            refine pZ 6 106 (bm 9 119) HT_.out ?_
            refine tZ 3 103 (bm 9 127) HT_.out HW_.out hHeld ?_
            refine tZ 7 107 (bm 9 255) HT_.out HW_.out hHeld ?_
            refine pZ 8 108 (bm 9 511) HT_.out ?_
            refine done_ (done_of HT_.out (by kernel_rfl)) ?_
            try go_wp2
            go_roundg k2
            case measure => have := HJy1.out; have := HKw1.out; omega
            case rel => exact ⟨(wrap64 (x17_2 + 1)), rS, H', ⟨by have := HJy1.out; have := HKw1.out; omega⟩, ⟨(rX HO_y1.out)⟩, ⟨(rX HO_y2.out)⟩, ⟨(rX HO_y3.out)⟩, ⟨(bX BKz1.out)⟩, ⟨(bX BKz2.out)⟩, ⟨(bX BKz3.out)⟩, ⟨(bX BKz4.out)⟩, ⟨(hX HB.out)⟩⟩
          rw [if_neg c91] at H
          have c91b0 := decide_eq_false c91
          clear c91
          have HC101 := aM H
          clear H
          obtain ⟨Aov1, cov1, eov1⟩ := Kd.R_slice HO_y1.out
          subst eov1
          go_upto_region 20 with (fail)
          go_cut [129] (fun vv1 wc => ∃ (kq : Nat) (x129_100 : Bool), vv1 = .bool x129_100 ∧ Aside0 (laws_FnTexts.j2 kq t106 x129_100 t102 t103 t104 = some r) ∧ Aside0 (kq ≤ k2) ∧ Aside0 (Kd.R (Kd.int .i64) 3 wc w.heap.size (fun _ => True) (.slice Aoz1 t131.length coz1) t131) ∧ Aside0 (wc.heap[gbz1]? = some (.cells #[.int .i64 t102, .int .i64 t103, .int .i64 t104] 23 (0, 0))) ∧ Aside0 (wc.heap[gbz2]? = some (.cells #[.int .i64 t108, .int .i64 t109, .int .i64 t110] 23 (0, 0))) ∧ Aside0 (wc.heap[gbz3]? = some (.cells #[.int .i64 t113, .int .i64 t114, .int .i64 t115] 23 (0, 0))) ∧ Aside0 (wc.heap[gbz4]? = some (.cells #[.int .i64 t130, (.slice Aoz1 t131.length coz1)] 41 (0, 0))) ∧ Aside0 (Below w.heap.size w wc))
          case first =>
            have H := HC101.out
            clear HC101
            by_cases c103 : t111 = true
            case neg =>
              replace c103 := Bool.eq_false_iff.mpr c103
              subst c103
              rw [if_neg nft] at H
              by_cases c137 : t123 = true
              case neg =>
                replace c137 := Bool.eq_false_iff.mpr c137
                subst c137
                rw [if_neg nft] at H
                have H' := aM H
                clear H
                go_wp2
                go_meet
                case rel => exact ⟨_, (false), rS, H', ⟨by have := HJy1.out; have := HKw1.out; first | omega | exact Nat.le_refl _⟩, ⟨(rX HO_y3.out)⟩, ⟨(bX BKz1.out)⟩, ⟨(bX BKz2.out)⟩, ⟨(bX BKz3.out)⟩, ⟨(bX BKz4.out)⟩, ⟨(hX HB.out)⟩⟩
              subst c137
              rw [if_pos rfl] at H
              replace H := bE H; obtain ⟨t145, A138, H⟩ := H
              have H' := aM H
              clear H
              go_wp2_with (first | (go_at_call 22; (with_reducible refine (impl_ProgText.calls _ _ _ _ _ _ (cX (Kd.R_reads' HO_y1.out).2.2) ((Kd.R_reads' HO_y1.out).2.1) A138.out).mono ?_); rintro e wu1 ⟨rfl, hb⟩; replace HO_y1 := aQ HO_y1 hb; replace HO_y2 := aQ HO_y2 hb; replace HO_y3 := aQ HO_y3 hb; replace BKz1 := aB BKz1 hb; replace BKz2 := aB BKz2 hb; replace BKz3 := aB BKz3 hb; replace BKz4 := aB BKz4 hb; replace HB := aS HB hb; clear hb))
              go_meet
              case rel => exact ⟨_, ((t145.toList != t121.toList)), rS, H', ⟨by have := HJy1.out; have := HKw1.out; first | omega | exact Nat.le_refl _⟩, ⟨(rX HO_y3.out)⟩, ⟨(bX BKz1.out)⟩, ⟨(bX BKz2.out)⟩, ⟨(bX BKz3.out)⟩, ⟨(bX BKz4.out)⟩, ⟨(hX HB.out)⟩⟩
            subst c103
            rw [if_pos rfl] at H
            replace H := bE H; obtain ⟨t142, A104, H⟩ := H
            by_cases c105 : t142.toList = t107.toList
            case neg =>
              rw [if_neg c105] at H
              obtain ⟨c105b0, c105b1⟩ := eqF c105
              (first | rw [c105b0] | (simp only [i64_w, i32_w]; rw [c105b0]) | skip)
              have H' := aM H
              clear H
              have hnbu1 := NBz2.out
              have hncu1 := NBz1.out
              have hnbu2 := NBz5.out
              have hncu2 := NBz6.out
              have hnbu3 := NBz9.out
              have hncu3 := NBz10.out
              obtain ⟨hczu1, hczu2, hczu3, hfzu1, hfzu2, hfzu3⟩ := cZ3 BKz2.out
              go_wp2_with (first | (go_at_call 16; (with_reducible refine (impl_OpText.calls _ _ _ _ _ _ A104.out).mono ?_); rintro e wu1 ⟨rfl, hb⟩; replace HO_y1 := aQ HO_y1 hb; replace HO_y2 := aQ HO_y2 hb; replace HO_y3 := aQ HO_y3 hb; replace BKz1 := aB BKz1 hb; replace BKz2 := aB BKz2 hb; replace BKz3 := aB BKz3 hb; replace BKz4 := aB BKz4 hb; replace HB := aS HB hb; clear hb))
              go_meet
              case rel => exact ⟨_, (true), rS, H', ⟨by have := HJy1.out; have := HKw1.out; first | omega | exact Nat.le_refl _⟩, ⟨(rX HO_y3.out)⟩, ⟨(bX BKz1.out)⟩, ⟨(bX BKz2.out)⟩, ⟨(bX BKz3.out)⟩, ⟨(bX BKz4.out)⟩, ⟨(hX HB.out)⟩⟩
            rw [if_pos c105] at H
            obtain ⟨c105b0, c105b1⟩ := eqT c105
            clear c105
            (first | rw [c105b0] | (simp only [i64_w, i32_w]; rw [c105b0]) | skip)
            replace H := bE H; obtain ⟨t143, A106, H⟩ := H
            have hnbu1 := NBz2.out
            have hncu1 := NBz1.out
            have hnbu2 := NBz5.out
            have hncu2 := NBz6.out
            have hnbu3 := NBz9.out
            have hncu3 := NBz10.out
            obtain ⟨hczu1, hczu2, hczu3, hfzu1, hfzu2, hfzu3⟩ := cZ3 BKz2.out
            go_wp2_with (first | (go_at_call 16; (with_reducible refine (impl_OpText.calls _ _ _ _ _ _ A104.out).mono ?_); rintro e wu1 ⟨rfl, hb⟩; replace HO_y1 := aQ HO_y1 hb; replace HO_y2 := aQ HO_y2 hb; replace HO_y3 := aQ HO_y3 hb; replace BKz1 := aB BKz1 hb; replace BKz2 := aB BKz2 hb; replace BKz3 := aB BKz3 hb; replace BKz4 := aB BKz4 hb; replace HB := aS HB hb; clear hb; obtain ⟨hczu4, hczu5, hczu6, hfzu4, hfzu5, hfzu6⟩ := cZ3 BKz2.out; refine Stop.out ?_))
            refine ⟨?_⟩
            by_cases c107 : t143 = true
            case neg =>
              replace c107 := Bool.eq_false_iff.mpr c107
              subst c107
              rw [if_neg nft] at H
              have H' := aM H
              clear H
              go_wp2_with (first | (go_at_call 26; (with_reducible refine (impl_OpOk.calls _ _ _ _ _ _ A106.out).mono ?_); rintro e wu2 ⟨rfl, hb⟩; replace HO_y1 := aQ HO_y1 hb; replace HO_y2 := aQ HO_y2 hb; replace HO_y3 := aQ HO_y3 hb; replace BKz1 := aB BKz1 hb; replace BKz2 := aB BKz2 hb; replace BKz3 := aB BKz3 hb; replace BKz4 := aB BKz4 hb; replace HB := aS HB hb; clear hb))
              go_meet
              case rel => exact ⟨_, (true), rS, H', ⟨by have := HJy1.out; have := HKw1.out; first | omega | exact Nat.le_refl _⟩, ⟨(rX HO_y3.out)⟩, ⟨(bX BKz1.out)⟩, ⟨(bX BKz2.out)⟩, ⟨(bX BKz3.out)⟩, ⟨(bX BKz4.out)⟩, ⟨(hX HB.out)⟩⟩
            subst c107
            rw [if_pos rfl] at H
            go_wp2_with (first | (go_at_call 26; (with_reducible refine (impl_OpOk.calls _ _ _ _ _ _ A106.out).mono ?_); rintro e wu2 ⟨rfl, hb⟩; replace HO_y1 := aQ HO_y1 hb; replace HO_y2 := aQ HO_y2 hb; replace HO_y3 := aQ HO_y3 hb; replace BKz1 := aB BKz1 hb; replace BKz2 := aB BKz2 hb; replace BKz3 := aB BKz3 hb; replace BKz4 := aB BKz4 hb; replace HB := aS HB hb; clear hb; refine Stop.out ?_))
            refine ⟨?_⟩
            by_cases c108 : t123 = true
            case neg =>
              replace c108 := Bool.eq_false_iff.mpr c108
              subst c108
              rw [if_neg nft] at H
              have H' := aM H
              clear H
              go_wp2
              go_meet
              case rel => exact ⟨_, (false), rS, H', ⟨by have := HJy1.out; have := HKw1.out; first | omega | exact Nat.le_refl _⟩, ⟨(rX HO_y3.out)⟩, ⟨(bX BKz1.out)⟩, ⟨(bX BKz2.out)⟩, ⟨(bX BKz3.out)⟩, ⟨(bX BKz4.out)⟩, ⟨(hX HB.out)⟩⟩
            subst c108
            rw [if_pos rfl] at H
            replace H := bE H; obtain ⟨t144, A109, H⟩ := H
            have H' := aM H
            clear H
            go_wp2_with (first | (go_at_call 22; (with_reducible refine (impl_ProgText.calls _ _ _ _ _ _ (cX (Kd.R_reads' HO_y1.out).2.2) ((Kd.R_reads' HO_y1.out).2.1) A109.out).mono ?_); rintro e wu3 ⟨rfl, hb⟩; replace HO_y1 := aQ HO_y1 hb; replace HO_y2 := aQ HO_y2 hb; replace HO_y3 := aQ HO_y3 hb; replace BKz1 := aB BKz1 hb; replace BKz2 := aB BKz2 hb; replace BKz3 := aB BKz3 hb; replace BKz4 := aB BKz4 hb; replace HB := aS HB hb; clear hb))
            go_meet
            case rel => exact ⟨_, ((t144.toList != t121.toList)), rS, H', ⟨by have := HJy1.out; have := HKw1.out; first | omega | exact Nat.le_refl _⟩, ⟨(rX HO_y3.out)⟩, ⟨(bX BKz1.out)⟩, ⟨(bX BKz2.out)⟩, ⟨(bX BKz3.out)⟩, ⟨(bX BKz4.out)⟩, ⟨(hX HB.out)⟩⟩
          case rest =>
            clear HC101
            try clear p1
            try clear q1
            try clear hx1
            try clear p2
            try clear p6
            try clear p14
            try clear q14
            try clear hx14
            try clear p64
            try clear c90
            try clear c91
            try clear c91b0
            try clear hx140_0
            try clear hx140_1
            try clear hx140_2
            try clear hx141_0
            try clear hx141_1
            try clear hx141_2
            try clear p140
            try clear p141
            try clear q140
            try clear q141
            obtain ⟨kq, x129_100, rfl, HA, HJu1, HO_y3, BKz1, BKz2, BKz3, BKz4, HB⟩ := hcut
            cases kq with
            | zero => exact absurd HA.out (by simp [laws_FnTexts.j2])
            | succ kj100 =>
              have H := HA.out
              clear HA
              simp only [laws_FnTexts.j2] at H
              by_cases c140 : x129_100 = true
              · subst c140
                rw [if_pos rfl] at H
                obtain rfl := sI H
                go_wp2
                go_ret
                exact ⟨rE, (hX HB.out)⟩
              replace c140 := Bool.eq_false_iff.mpr c140
              subst c140
              rw [if_neg nft] at H
              replace H := bE H; obtain ⟨t146, A141, H⟩ := H
              by_cases c142 : t146 = true
              case neg =>
                replace c142 := Bool.eq_false_iff.mpr c142
                subst c142
                rw [if_neg nft] at H
                obtain rfl := sI H
                have hnbt1 := NBz1.out
                have hnct1 := NBz2.out
                have hnbt2 := NBz3.out
                have hnct2 := NBz4.out
                have hnbt3 := NBz7.out
                have hnct3 := NBz8.out
                obtain ⟨hczt1, hczt2, hczt3, hfzt1, hfzt2, hfzt3⟩ := cZ3 BKz1.out
                go_wp2_with (first | (refine goesM 26 131 Tryd.func26 #[.agg #[.int .i64 t102, .int .i64 t103, .int .i64 t104]] ?_; refine (impl_OpOk.calls _ _ _ _ _ _ A141.out).mono ?_; rintro e wt1 ⟨rfl, hb⟩; refine ⟨_, rfl, ?_⟩; replace HO_y3 := aQ HO_y3 hb; replace BKz1 := aB BKz1 hb; replace BKz2 := aB BKz2 hb; replace BKz3 := aB BKz3 hb; replace BKz4 := aB BKz4 hb; replace HB := aS HB hb; clear hb))
                go_ret
                exact ⟨rE, (hX HB.out)⟩
              subst c142
              rw [if_pos rfl] at H
              replace H := bE H; obtain ⟨⟨t147, t148, t149, t150⟩, A143, H⟩ := H
              try dsimp only at H
              have hnbt1 := NBz1.out
              have hnct1 := NBz2.out
              have hnbt2 := NBz3.out
              have hnct2 := NBz4.out
              have hnbt3 := NBz7.out
              have hnct3 := NBz8.out
              obtain ⟨hczt1, hczt2, hczt3, hfzt1, hfzt2, hfzt3⟩ := cZ3 BKz1.out
              go_wp2_with (first | (refine goesM 26 131 Tryd.func26 #[.agg #[.int .i64 t102, .int .i64 t103, .int .i64 t104]] ?_; refine (impl_OpOk.calls _ _ _ _ _ _ A141.out).mono ?_; rintro e wt1 ⟨rfl, hb⟩; refine ⟨_, rfl, ?_⟩; replace HO_y3 := aQ HO_y3 hb; replace BKz1 := aB BKz1 hb; replace BKz2 := aB BKz2 hb; replace BKz3 := aB BKz3 hb; replace BKz4 := aB BKz4 hb; replace HB := aS HB hb; clear hb; refine Stop.out ?_))
              refine ⟨?_⟩
              by_cases c144 : t150 = true
              · subst c144
                rw [if_pos rfl] at H
                obtain rfl := sI H
                go_wp2_with (first | (refine goesM 7 137 Tryd.func7 #[.string t106] ?_; refine (impl_OpOf.calls _ _ _ _ _ _ _ A143.out).mono ?_; rintro e wt2 ⟨rfl, hb⟩; refine ⟨_, rfl, ?_⟩; replace HO_y3 := aQ HO_y3 hb; replace BKz1 := aB BKz1 hb; replace BKz2 := aB BKz2 hb; replace BKz3 := aB BKz3 hb; replace BKz4 := aB BKz4 hb; replace HB := aS HB hb; clear hb) | ((with_reducible refine gate_dst (N := 18) rfl ?_); (try (refine gate_guard (by rfl) ?_; dsimp only)); refine boxF 18 #[.int .i64 0, .int .i64 0, .int .i64 0] 23 ?_; intro gbt1 hg wt3 hbox hb; have BKt1 := aM (hbox); have GWt1 := aG hg HB; have GEt1 := aG hg HB; have NBt1 := aL hg BKz1; have NBt2 := aR hg BKz1; have NBt3 := aL hg BKz2; have NBt4 := aR hg BKz2; have NBt5 := aL hg BKz3; have NBt6 := aR hg BKz3; have NBt7 := aL hg BKz4; have NBt8 := aR hg BKz4; replace HO_y3 := aQ HO_y3 hb; replace BKz1 := aB BKz1 hb; replace BKz2 := aB BKz2 hb; replace BKz3 := aB BKz3 hb; replace BKz4 := aB BKz4 hb; replace HB := aS HB hb; clear hb hbox hg; have hnbt4 := NBt2.out; have hnct4 := NBt1.out; have hnbt5 := NBt4.out; have hnct5 := NBt3.out; have hnbt6 := NBt6.out; have hnct6 := NBt5.out; have hnbt7 := NBt8.out; have hnct7 := NBt7.out; obtain ⟨hczt4, hczt5, hczt6, hfzt4, hfzt5, hfzt6⟩ := cZ3 BKt1.out; obtain ⟨hczt7, hczt8, hczt9, hfzt7, hfzt8, hfzt9⟩ := cZ3 BKz1.out))
                go_ret
                exact ⟨rE, (hX HB.out)⟩
              replace c144 := Bool.eq_false_iff.mpr c144
              subst c144
              rw [if_neg nft] at H
              obtain rfl := sI H
              go_wp2_with (first | (refine goesM 7 137 Tryd.func7 #[.string t106] ?_; refine (impl_OpOf.calls _ _ _ _ _ _ _ A143.out).mono ?_; rintro e wt2 ⟨rfl, hb⟩; refine ⟨_, rfl, ?_⟩; replace HO_y3 := aQ HO_y3 hb; replace BKz1 := aB BKz1 hb; replace BKz2 := aB BKz2 hb; replace BKz3 := aB BKz3 hb; replace BKz4 := aB BKz4 hb; replace HB := aS HB hb; clear hb) | ((with_reducible refine gate_dst (N := 18) rfl ?_); (try (refine gate_guard (by rfl) ?_; dsimp only)); refine boxF 18 #[.int .i64 0, .int .i64 0, .int .i64 0] 23 ?_; intro gbt1 hg wt3 hbox hb; have BKt1 := aM (hbox); have GWt1 := aG hg HB; have GEt1 := aG hg HB; have NBt1 := aL hg BKz1; have NBt2 := aR hg BKz1; have NBt3 := aL hg BKz2; have NBt4 := aR hg BKz2; have NBt5 := aL hg BKz3; have NBt6 := aR hg BKz3; have NBt7 := aL hg BKz4; have NBt8 := aR hg BKz4; replace HO_y3 := aQ HO_y3 hb; replace BKz1 := aB BKz1 hb; replace BKz2 := aB BKz2 hb; replace BKz3 := aB BKz3 hb; replace BKz4 := aB BKz4 hb; replace HB := aS HB hb; clear hb hbox hg; have hnbt4 := NBt2.out; have hnct4 := NBt1.out; have hnbt5 := NBt4.out; have hnct5 := NBt3.out; have hnbt6 := NBt6.out; have hnct6 := NBt5.out; have hnbt7 := NBt8.out; have hnct7 := NBt7.out; obtain ⟨hczt4, hczt5, hczt6, hfzt4, hfzt5, hfzt6⟩ := cZ3 BKt1.out))
              go_ret
              exact ⟨rE, (hX HB.out)⟩
end Go.Proofs.YtafcfhgdblefgaaDoor.P
namespace Go.Proofs.YtafcfhgdblefgaaDoorZ
open Go.RowKit Go.Proofs.YtafcfhgdblefgaaDoorW.PrintWords Go.Proofs.YtafcfhgdblefgaaDoorW.PrintLast
def Opens {α : Type} (P : Program) (t : TypeId) (d : Kd α) (wf : α → Prop) : Prop :=
  ∀ (H : Type) (enc : TypeId × Value → H) (w : World) (fuel : Nat) (cs : List Value) (x : DataW H × List MemPlace),
    DataW.trod enc P w 0 (fun _ => true) true fuel t cs = some x → ∃ a, d.K w a cs ∧ wf a
theorem Opens.int {P : Program} {t : TypeId} {k : IntKind} (hu : P.underlying t = some (.int k)) : Opens P t (Kd.int k) (fun n => (Lit.int k n).wf = true) := by
  intro H enc w fuel cs x h
  obtain ⟨n, rfl, _, hw⟩ := DataW.trod_int hu h
  exact ⟨n, rfl, hw⟩
theorem Opens.bool {P : Program} {t : TypeId} (hu : P.underlying t = some .bool) : Opens P t Kd.bool (fun _ => True) := by
  intro H enc w fuel cs x h
  obtain ⟨n, rfl, _⟩ := DataW.trod_bool hu h
  exact ⟨n, rfl, trivial⟩
theorem Opens.string {P : Program} {t : TypeId} (hu : P.underlying t = some .string) : Opens P t Kd.string (fun s => s.size ≤ 9223372036854775807) := by
  intro H enc w fuel cs x h
  obtain ⟨n, rfl, _, hw⟩ := DataW.trod_string hu h
  exact ⟨n, rfl, by simpa [maxLen] using hw⟩
theorem exists_list {α : Type} (Q : Nat → α → Prop) : ∀ n, (∀ i, i < n → ∃ y, Q i y) → ∃ xs : List α, xs.length = n ∧ ∀ j p, xs[j]? = some p → Q j p
  | 0, _ => ⟨[], rfl, fun j p h => by simp at h⟩
  | n + 1, h => by
    obtain ⟨xs, hl, hx⟩ := exists_list Q n (fun i hi => h i (by omega))
    obtain ⟨y, hy⟩ := h n (by omega)
    refine ⟨xs ++ [y], by simp [hl], fun j p hj => ?_⟩
    by_cases hjn : j < n
    · rw [List.getElem?_append_left (by omega)] at hj
      exact hx j p hj
    · have hlt := (List.getElem?_eq_some_iff.1 hj).1
      rw [List.length_append, List.length_singleton, hl] at hlt
      obtain rfl : j = n := by omega
      rw [List.getElem?_append_right (by omega), hl, Nat.sub_self] at hj
      obtain rfl : y = p := by simpa using hj
      exact hy
theorem Opens.slice {α : Type} {P : Program} {t e : TypeId} {d : Kd α} {wf : α → Prop} (e' : Nat) (hu : P.underlying t = some (.slice e)) (hc : P.cellsOf e = d.sz) (he : Opens P e d wf) :
    Opens P t (Kd.slice e' d) (fun xs => xs.length ≤ 9223372036854775807 ∧ ∀ a ∈ xs, wf a) := by
  intro H enc w fuel cs x h
  rcases DataW.trod_slice hu h with ⟨rfl, _⟩ | ⟨a, len, cap, elems, rest, n, _, rfl, _, hb, hl, hm, hlen, hel, _, _⟩
  · exact ⟨[], ⟨none, 0, rfl, Nat.le_refl _, Kd.C_nil _ _⟩, by simp⟩
  · have each : ∀ i, i < len → ∃ y, wf y ∧ ∃ c, c.length = d.sz ∧ d.K w y c ∧ ∀ j u, c[j]? = some u → w.cell? (a.add (i * d.sz + j)) = some u := by
      intro i hi
      have h1 := hel i hi
      rw [List.getElem?_eq_getElem (by omega), hc, Option.bind_eq_some_iff] at h1
      obtain ⟨c, hcs, hy⟩ := h1
      obtain ⟨y, hK, hw⟩ := he _ _ _ _ _ _ hy
      refine ⟨y, hw, c, d.K_len hK, hK, fun j u hj => ?_⟩
      have h2 := World.cells?_some hcs
      rw [← Addr.add_add]
      have hjl := (List.getElem?_eq_some_iff.1 hj).1
      rw [← hj]
      exact (h2.2.2 j (by rw [← h2.2.1]; exact hjl))
    obtain ⟨xs, hxl, hxs⟩ := exists_list _ len each
    simp only [maxLen] at hm
    refine ⟨xs, ⟨some a, cap, by rw [hxl], by omega, rfl, by omega, fun _ => ⟨a, rfl, fun j p hj => ?_⟩⟩, by omega, fun y hy => ?_⟩
    · obtain ⟨_, c, hcl, hK, hcell⟩ := hxs j p hj
      exact ⟨c, hcl, hK, hcell⟩
    · obtain ⟨j, hj⟩ := List.getElem?_of_mem hy
      exact (hxs j y hj).1
def OpensF {α : Type} (P : Program) (fs : Array Field) (o : Nat) (d : Kd α) (wf : α → Prop) : Prop :=
  ∀ (H : Type) (enc : TypeId × Value → H) (w : World) (fuel : Nat) (cs : List Value) (xs : List (DataW H × List MemPlace)), cs.length = o + d.sz → xs.length = fs.size →
    (∀ (j : Nat) (f : Field), fs[j]? = some f → DataW.trod enc P w 0 (fun _ => true) true fuel f.type ((cs.drop f.offset).take (P.cellsOf f.type)) = xs[j]?) → ∃ a, d.K w a (cs.drop o) ∧ wf a
theorem OpensF.cons {α β : Type} {P : Program} {fs : Array Field} {o : Nat} {d : Kd α} {d' : Kd β} {wf : α → Prop} {wf' : β → Prop} (i : Nat) (f : Field) (hf : fs[i]? = some f) (ho : f.offset = o) (hc : P.cellsOf f.type = d.sz) (h : Opens P f.type d wf)
    (h' : OpensF P fs (o + d.sz) d' wf') : OpensF P fs o (Kd.pair d d') (fun x => wf x.1 ∧ wf' x.2) := by
  intro H enc w fuel cs xs hl hx hall
  have h1 := hall i f hf
  have hi : i < xs.length := by rw [hx]; exact (Array.getElem?_eq_some_iff.1 hf).1
  rw [List.getElem?_eq_getElem hi, ho, hc] at h1
  obtain ⟨a, hK, hw⟩ := h _ _ _ _ _ _ h1
  have hl' : cs.length = o + (d.sz + d'.sz) := hl
  obtain ⟨b, hK', hw'⟩ := h' H enc w fuel cs xs (by omega) hx hall
  refine ⟨(a, b), ⟨_, _, ?_, hK, hK'⟩, hw, hw'⟩
  rw [← List.drop_drop, List.take_append_drop]
theorem Opens.struct {α β : Type} {P : Program} {t : TypeId} {fs : Array Field} {d : Kd α} {wf : α → Prop} (f : β → α) (g : α → β) (hfg : ∀ a, f (g a) = a) (hu : P.underlying t = some (.struct fs)) (hc : P.cellsOf t = d.sz) (h : OpensF P fs 0 d wf) :
    Opens P t (Kd.iso d f) (fun b => wf (f b)) := by
  intro H enc w fuel cs x hx
  obtain ⟨xs, n, _, _, hl, hxl, hall⟩ := DataW.trod_struct hu hx
  obtain ⟨a, hK, hw⟩ := h H enc w n cs xs (by omega) hxl hall
  refine ⟨g a, ?_, ?_⟩
  · show d.K w (f (g a)) cs
    rw [hfg]; exact hK
  · show wf (f (g a))
    rw [hfg]; exact hw
theorem Opens.param {α : Type} {P : Program} {t : TypeId} {d : Kd α} {wf : α → Prop} (h : Opens P t d wf) {H : Type} {enc : TypeId × Value → H} {w : World} {v : Value} {D : DataW H} {ps : List MemPlace} (hv : DataW.Trod enc P w 0 (fun _ => true) true t v D ps) :
    ∃ a, d.K w a v.cells.toList ∧ wf a := by
  obtain ⟨fuel, hf⟩ := hv
  exact h _ _ _ _ _ _ hf
end Go.Proofs.YtafcfhgdblefgaaDoorZ
namespace Go.Proofs.YtafcfhgdblefgaaDoor.P
open Go.RowKit Go.Proofs.YtafcfhgdblefgaaDoorW.PrintWords Go.Proofs.YtafcfhgdblefgaaDoorW.PrintLast Go.Proofs.YtafcfhgdblefgaaDoorZ
def PureFnTexts : Prop := ∀ (x0 : List Int), (x0.length ≤ 9223372036854775807 ∧ ∀ y ∈ x0, (Lit.int .u8 y).wf = true) → ∃ k, laws_FnTexts.f k x0 = some true
end Go.Proofs.YtafcfhgdblefgaaDoor.P
namespace Go.Proofs.YtafcfhgdblefgaaDoorW.PrintWords
section
variable {α : Type}
theorem Ev.shift {g : Nat → Option α} {r : α} (h : Ev (fun k => g (k + 1)) r) : Ev g r := Ev.step (fun _ => rfl) h
theorem Ev.val {a r : α} (h : a = r) : Ev (fun _ => some a) r := by subst h; exact Ev.now _
theorem Ev.to {g : Nat → Option α} {a r : α} (h : Ev g a) (e : a = r) : Ev g r := e ▸ h
theorem Ev.pos {p : Prop} [Decidable p] {g f : Nat → Option α} {r : α} (h : p) (hg : Ev g r) : Ev (fun k => if p then g k else f k) r := by
  simp only [if_pos h]; exact hg
theorem Ev.neg {p : Prop} [Decidable p] {g f : Nat → Option α} {r : α} (h : ¬ p) (hf : Ev f r) : Ev (fun k => if p then g k else f k) r := by
  simp only [if_neg h]; exact hf
theorem Ev.det {g : Nat → Option α} {a b : α} (h : Ev g a) (h' : Ev g b) : a = b := by
  obtain ⟨K, hK⟩ := h
  obtain ⟨L, hL⟩ := h'
  have h1 := hK (max K L) (Nat.le_max_left _ _)
  have h2 := hL (max K L) (Nat.le_max_right _ _)
  rw [h1] at h2
  exact Option.some.inj h2
end
end Go.Proofs.YtafcfhgdblefgaaDoorW.PrintWords
namespace Go.Proofs.YtafcfhgdblefgaaDoorZ
open Go.RowKit Go.Proofs.YtafcfhgdblefgaaDoorW.PrintWords
theorem back {n : Nat} {Q : Nat → Prop} (hn : Q n) (hs : ∀ i, i < n → Q (i + 1) → Q i) : ∀ i, i ≤ n → Q i := by
  intro i hi
  obtain ⟨d, rfl⟩ : ∃ d, n = i + d := ⟨n - i, by omega⟩
  clear hi
  induction d generalizing i with
  | zero => exact hn
  | succ d ih =>
    refine hs i (by omega) (ih (i + 1) ?_ ?_)
    · rw [show i + 1 + d = i + (d + 1) by omega]; exact hn
    · intro j hj; exact hs j (by omega)
theorem w64 {n : Int} (h1 : -9223372036854775808 ≤ n) (h2 : n < 9223372036854775808) : wrap64 n = n := by unfold wrap64; omega
theorem succ64 {i n : Nat} (h : i < n) (hn : n ≤ 9223372036854775807) : wrap64 ((i : Int) + 1) = ((i + 1 : Nat) : Int) := by
  rw [w64 (by omega) (by omega)]; simp
section
variable {τ σ : Type}
theorem getD_get {xs : List τ} {i : Nat} {x d : τ} (h : xs[i]? = some x) : xs.getD ((i : Int)).toNat d = x := by
  rw [Int.toNat_natCast, List.getD_eq_getElem?_getD, h]; rfl
end
theorem rd_get {xs : List Int} {i : Nat} {x : Int} (h : xs[i]? = some x) : rd xs i = x := getD_get h
end Go.Proofs.YtafcfhgdblefgaaDoorZ
namespace Go.Proofs.YtafcfhgdblefgaaDoor.P
open Go.RowKit Go.Proofs.YtafcfhgdblefgaaDoorW.PrintWords Go.Proofs.YtafcfhgdblefgaaDoorW.PrintLast Go.Proofs.YtafcfhgdblefgaaDoorZ
section
variable {α β : Type}
def Got (o : Option α) (P : α → Prop) : Prop := ∃ a, o = some a ∧ P a
theorem Got.bind {o : Option α} {f : α → Option β} {P : α → Prop} {Q : β → Prop} (h : Got o P) (hf : ∀ a, P a → Got (f a) Q) : Got (o.bind f) Q := by
  obtain ⟨a, rfl, hp⟩ := h
  exact hf a hp
theorem Got.now {a : α} {P : α → Prop} (h : P a) : Got (some a) P := ⟨a, rfl, h⟩
theorem Got.pos {p : Prop} [Decidable p] {a b : Option α} {P : α → Prop} (hp : p) (h : Got a P) : Got (if p then a else b) P := by rw [if_pos hp]; exact h
theorem Got.neg {p : Prop} [Decidable p] {a b : Option α} {P : α → Prop} (hp : ¬ p) (h : Got b P) : Got (if p then a else b) P := by rw [if_neg hp]; exact h
theorem Got.ite {p : Prop} [Decidable p] {a b : Option α} {P : α → Prop} (h1 : p → Got a P) (h2 : ¬ p → Got b P) : Got (if p then a else b) P := by
  by_cases h : p
  · exact Got.pos h (h1 h)
  · exact Got.neg h (h2 h)
theorem Got.mono {o : Option α} {P Q : α → Prop} (h : Got o P) (f : ∀ a, P a → Q a) : Got o Q := by obtain ⟨a, h1, h2⟩ := h; exact ⟨a, h1, f a h2⟩
def EvG (g : Nat → Option α) (P : α → Prop) : Prop := ∃ a, Ev g a ∧ P a
theorem EvG.of_got {o : Option α} {P : α → Prop} (h : Got o P) : EvG (fun _ => o) P := by obtain ⟨a, rfl, hp⟩ := h; exact ⟨a, Ev.now _, hp⟩
theorem EvG.of_ev {g : Nat → Option α} {P : α → Prop} {a : α} (h : Ev g a) (hp : P a) : EvG g P := ⟨a, h, hp⟩
theorem EvG.now {a : α} {P : α → Prop} (h : P a) : EvG (fun _ => some a) P := ⟨a, Ev.now _, h⟩
theorem EvG.bind {g : Nat → Option α} {f : α → Nat → Option β} {P : α → Prop} {Q : β → Prop} (h : EvG g P) (hf : ∀ a, P a → EvG (f a) Q) : EvG (fun k => (g k).bind fun a => f a k) Q := by
  obtain ⟨a, h1, hp⟩ := h
  obtain ⟨b, h2, hq⟩ := hf a hp
  exact ⟨b, Ev.bind h1 h2, hq⟩
theorem EvG.shift {g : Nat → Option α} {P : α → Prop} (h : EvG (fun k => g (k + 1)) P) : EvG g P := by obtain ⟨a, h1, hp⟩ := h; exact ⟨a, Ev.shift h1, hp⟩
theorem EvG.pos {p : Prop} [Decidable p] {a b : Nat → Option α} {P : α → Prop} (hp : p) (h : EvG a P) : EvG (fun k => if p then a k else b k) P := by simp only [hp, if_true]; exact h
theorem EvG.neg {p : Prop} [Decidable p] {a b : Nat → Option α} {P : α → Prop} (hp : ¬ p) (h : EvG b P) : EvG (fun k => if p then a k else b k) P := by simp only [hp, if_false]; exact h
theorem EvG.ite {p : Prop} [Decidable p] {a b : Nat → Option α} {P : α → Prop} (h1 : p → EvG a P) (h2 : ¬ p → EvG b P) : EvG (fun k => if p then a k else b k) P := by
  by_cases h : p
  · exact EvG.pos h (h1 h)
  · exact EvG.neg h (h2 h)
theorem EvG.mono {g : Nat → Option α} {P Q : α → Prop} (h : EvG g P) (f : ∀ a, P a → Q a) : EvG g Q := by obtain ⟨a, h1, h2⟩ := h; exact ⟨a, h1, f a h2⟩
end
def okC (b : List Int) (i : Int) : Prop := b.length ≤ 1048576 ∧ 0 ≤ i ∧ i ≤ (b.length : Int)
theorem and255_all (n : Int) : Go.bits .and .i64 n 255 = n % 256 := by
  have h255 : (BitVec.ofInt 64 255).toNat = 2 ^ 8 - 1 := by decide
  have key : (BitVec.ofInt 64 n &&& BitVec.ofInt 64 255).toNat = (n % ((2 ^ 64 : Nat) : Int)).toNat % 2 ^ 8 := by
    rw [BitVec.toNat_and, BitVec.toNat_ofInt, h255, Nat.and_two_pow_sub_one_eq_mod]
  show IntKind.i64.wrap ((BitVec.ofInt 64 n &&& BitVec.ofInt 64 255).toNat : Nat) = n % 256
  rw [key, IntKind.wrap_i64]
  omega
theorem l1Byte_got {b : List Int} {i : Int} (h : okC b i) (c : Int) : Got (spec_l1Byte.f b i c) (fun r => 0 ≤ r.1 ∧ r.1 ≤ 255 ∧ okC b r.2.1) := by
  obtain ⟨h0, h1, h2⟩ := h
  simp only [spec_l1Byte.f, and255_all]
  refine Got.ite (fun h3 => Got.pos h1 (Got.now ⟨?_, ?_, h0, ?_, ?_⟩)) (fun h3 => Got.now ⟨?_, ?_, h0, h1, h2⟩)
  · show 0 ≤ _ % (256 : Int); omega
  · show _ % (256 : Int) ≤ 255; omega
  · show 0 ≤ wrap64 (i + 1); rw [w64 (by omega) (by omega)]; omega
  · show wrap64 (i + 1) ≤ _; rw [w64 (by omega) (by omega)]; omega
  · show 0 ≤ _ % (256 : Int); omega
  · show _ % (256 : Int) ≤ 255; omega
theorem l1Below_got {b : List Int} {i : Int} (h : okC b i) (c n : Int) : Got (spec_l1Below.f b i c n) (fun r => 0 ≤ r.1 ∧ (0 < n → r.1 < n) ∧ (n ≤ 0 → r.1 = 0) ∧ okC b r.2.1) := by
  simp only [spec_l1Below.f]
  refine Got.ite (fun h1 => Got.now ⟨Int.le_refl 0, fun h2 => by omega, fun _ => rfl, h⟩) (fun h1 => ?_)
  have hn : ¬ n = 0 := by omega
  refine Got.ite (fun h2 => ?_) (fun h2 => ?_)
  · refine (l1Byte_got h c).bind (fun r hr => Got.neg hn (Got.now ⟨?_, fun _ => ?_, fun _ => by omega, hr.2.2⟩))
    · exact Int.tmod_nonneg _ hr.1
    · exact Int.tmod_lt_of_pos _ (by omega)
  · refine (l1Byte_got h c).bind (fun r1 h1 => (l1Byte_got h1.2.2 _).bind (fun r2 h2 => (l1Byte_got h2.2.2 _).bind (fun r3 h3 => (l1Byte_got h3.2.2 _).bind (fun r4 h4 => Got.neg hn (Got.now ⟨?_, fun _ => ?_, fun _ => by omega, h4.2.2⟩)))))
    · refine Int.tmod_nonneg _ ?_
      have e1 : wrap64 (r1.1 * 16777216) = r1.1 * 16777216 := w64 (by omega) (by omega)
      have e2 : wrap64 (r2.1 * 65536) = r2.1 * 65536 := w64 (by omega) (by omega)
      have e3 : wrap64 (r3.1 * 256) = r3.1 * 256 := w64 (by omega) (by omega)
      rw [e1, e2, e3, w64 (n := r1.1 * 16777216 + r2.1 * 65536) (by omega) (by omega), w64 (n := r1.1 * 16777216 + r2.1 * 65536 + r3.1 * 256) (by omega) (by omega), w64 (by omega) (by omega)]
      omega
    · exact Int.tmod_lt_of_pos _ (by omega)
theorem l1New_evg (b : List Int) (hb : b.length ≤ 1048576) : EvG (fun k => spec_l1New.f k b) (fun r => r.1 = b ∧ r.2.1 = 0) := by
  have key : ∀ i : Nat, i ≤ b.length → ∀ h : Int, EvG (fun k => spec_l1New.l0 k b h (i : Int)) (fun r => r.1 = b ∧ r.2.1 = 0) := by
    refine back ?_ fun i hi ih => ?_
    · intro h
      refine EvG.shift ?_
      simp only [spec_l1New.l0, Int.lt_irrefl, if_false]
      exact EvG.now ⟨rfl, rfl⟩
    · intro h
      have c0 : (0 : Int) ≤ (i : Int) := by omega
      have c1 : (i : Int) < (b.length : Int) := by omega
      refine EvG.shift ?_
      simp only [spec_l1New.l0, c0, c1, if_true, succ64 hi (by omega)]
      refine EvG.ite (fun _ => ih _) (fun _ => EvG.now ⟨rfl, rfl⟩)
  simp only [spec_l1New.f]
  exact key 0 (Nat.zero_le _) _
theorem okC_start {b : List Int} (hb : b.length ≤ 1048576) : okC b 0 := ⟨hb, Int.le_refl _, by omega⟩
theorem l1PickInt_got {b : List Int} {i : Int} (h : okC b i) (c : Int) (l : List Int) (hl : l ≠ []) : Got (spec_l1PickInt.f b i c l) (fun r => r.1 ∈ l ∧ okC b r.2.1) := by
  have hp := List.length_pos_iff.mpr hl
  simp only [spec_l1PickInt.f]
  refine (l1Below_got h c _).bind (fun r hr => Got.pos hr.1 (Got.pos (hr.2.1 (by omega)) (Got.now ⟨?_, hr.2.2.2⟩)))
  have h1 := hr.1
  have h2 := hr.2.1 (by omega)
  obtain ⟨n, hn⟩ : ∃ n : Nat, r.1 = (n : Int) := ⟨r.1.toNat, by omega⟩
  have hlt : n < l.length := by omega
  show rd l r.1 ∈ l
  rw [hn, rd_get (List.getElem?_eq_getElem hlt)]
  exact List.getElem_mem hlt
theorem l1Once_got {b : List Int} {i : Int} (h : okC b i) (c n : Int) : Got (spec_l1Once.f b i c n) (fun r => okC b r.2.1) := by
  simp only [spec_l1Once.f]
  exact (l1Below_got h c n).bind (fun r hr => Got.now hr.2.2.2)
theorem l1Pick_got {b : List Int} {i : Int} (h : okC b i) (c : Int) (l : List ByteArray) (hl : l ≠ []) : Got (spec_l1Pick.f b i c l) (fun r => r.1 ∈ l ∧ okC b r.2.1) := by
  have hp := List.length_pos_iff.mpr hl
  simp only [spec_l1Pick.f]
  refine (l1Below_got h c _).bind (fun r hr => Got.pos hr.1 (Got.pos (hr.2.1 (by omega)) (Got.now ⟨?_, hr.2.2.2⟩)))
  have h1 := hr.1
  have h2 := hr.2.1 (by omega)
  obtain ⟨n, hn⟩ : ∃ n : Nat, r.1 = (n : Int) := ⟨r.1.toNat, by omega⟩
  have hlt : n < l.length := by omega
  show rdOf ByteArray.empty l r.1 ∈ l
  rw [hn]
  have e : rdOf ByteArray.empty l (n : Int) = l[n] := getD_get (List.getElem?_eq_getElem hlt)
  rw [e]
  exact List.getElem_mem hlt
theorem digit_str {d : Int} (h0 : 0 ≤ d) (h1 : d ≤ 9) : strOfNums [(wrap64 (48 + d)) % 256] = ⟨#[UInt8.ofNat (48 + d.toNat)]⟩ := by
  have : d = 0 ∨ d = 1 ∨ d = 2 ∨ d = 3 ∨ d = 4 ∨ d = 5 ∨ d = 6 ∨ d = 7 ∨ d = 8 ∨ d = 9 := by omega
  rcases this with rfl | rfl | rfl | rfl | rfl | rfl | rfl | rfl | rfl | rfl <;> decide +kernel
theorem digit_enc {d : Int} (h0 : 0 ≤ d) (h1 : d ≤ 9) : Go.Utf8.encode (wrap32 (wrap64 (48 + d))) = ⟨#[UInt8.ofNat (48 + d.toNat)]⟩ := by
  have : d = 0 ∨ d = 1 ∨ d = 2 ∨ d = 3 ∨ d = 4 ∨ d = 5 ∨ d = 6 ∨ d = 7 ∨ d = 8 ∨ d = 9 := by omega
  rcases this with rfl | rfl | rfl | rfl | rfl | rfl | rfl | rfl | rfl | rfl <;> decide +kernel
def dgs (n : Nat) : ByteArray := if h : n < 10 then ⟨#[UInt8.ofNat (48 + n)]⟩ else dgs (n / 10) ++ ⟨#[UInt8.ofNat (48 + n % 10)]⟩
termination_by n
decreasing_by omega
theorem dgs_lt {n : Nat} (h : n < 10) : dgs n = ⟨#[UInt8.ofNat (48 + n)]⟩ := by rw [dgs, dif_pos h]
theorem dgs_ge {n : Nat} (h : ¬ n < 10) : dgs n = dgs (n / 10) ++ ⟨#[UInt8.ofNat (48 + n % 10)]⟩ := by rw [dgs, dif_neg h]
theorem dgs_size : ∀ (d n : Nat), n < 10 ^ (d + 1) → (dgs n).size ≤ d + 1 := by
  intro d
  induction d with
  | zero =>
    intro n h
    rw [dgs_lt (by simpa using h)]
    exact Nat.le_refl _
  | succ d ih =>
    intro n h
    by_cases hn : n < 10
    · rw [dgs_lt hn]; show 1 ≤ _; omega
    · rw [dgs_ge hn, ByteArray.size_append]
      have := ih (n / 10) (by rw [Nat.pow_succ] at h; omega)
      show _ + 1 ≤ _
      omega
def dstr (n : Int) : ByteArray := if n < 0 then ⟨#[45]⟩ ++ dgs n.natAbs else dgs n.natAbs
theorem dstr_size {n : Int} (h0 : -9223372036854775808 ≤ n) (h1 : n < 9223372036854775808) : (dstr n).size ≤ 20 := by
  have := dgs_size 18 n.natAbs (by omega)
  unfold dstr
  split
  · rw [ByteArray.size_append]; show 1 + _ ≤ _; omega
  · omega
theorem append_assoc_ (a b c : ByteArray) : a ++ b ++ c = a ++ (b ++ c) := ByteArray.append_assoc
theorem empty_append_ (a : ByteArray) : (⟨#[]⟩ : ByteArray) ++ a = a := ByteArray.empty_append
theorem append_empty_ (a : ByteArray) : a ++ (⟨#[]⟩ : ByteArray) = a := ByteArray.append_empty
theorem tdiv_pos (m : Nat) : Int.tdiv (m : Int) 10 = ((m / 10 : Nat) : Int) := rfl
theorem tdiv_neg (m : Nat) : Int.tdiv (-(m : Int)) 10 = -((m / 10 : Nat) : Int) := by rw [Int.neg_tdiv]; rfl
theorem tmod_pos (m : Nat) : Int.tmod (m : Int) 10 = ((m % 10 : Nat) : Int) := rfl
theorem tmod_neg (m : Nat) : Int.tmod (-(m : Int)) 10 = -((m % 10 : Nat) : Int) := by rw [Int.neg_tmod]; rfl
theorem spec_loop (b : Bool) : ∀ (d m : Nat) (neg : Bool) (out : ByteArray), m < 10 ^ d → m ≤ 9223372036854775808 → (neg = false → m < 9223372036854775808) → out.size + d ≤ 100 →
    Ev (fun k => spec_Digits.l0 k (if neg then -(m : Int) else (m : Int)) b out) ((if b then (⟨#[45]⟩ : ByteArray) else ⟨#[]⟩) ++ ((if m = 0 then ⟨#[]⟩ else dgs m) ++ out)) := by
  intro d
  induction d with
  | zero =>
    intro m neg out h _ _ hs
    obtain rfl : m = 0 := by simpa using h
    refine Ev.shift ?_
    have e : (if neg then -((0 : Nat) : Int) else ((0 : Nat) : Int)) = 0 := by cases neg <;> rfl
    simp only [e, spec_Digits.l0, if_true, empty_append_]
    cases b with
    | true =>
      have : 1 + out.size ≤ 9223372036854775807 := by omega
      simp only [this, if_true]
      exact Ev.now _
    | false =>
      simp only [Bool.false_eq_true, if_false, empty_append_]
      exact Ev.now _
  | succ d ih =>
    intro m neg out h hm hn hs
    by_cases h0 : m = 0
    · subst h0
      refine Ev.shift ?_
      have e : (if neg then -((0 : Nat) : Int) else ((0 : Nat) : Int)) = 0 := by cases neg <;> rfl
      simp only [e, spec_Digits.l0, if_true, empty_append_]
      cases b with
      | true =>
        have : 1 + out.size ≤ 9223372036854775807 := by omega
        simp only [this, if_true]
        exact Ev.now _
      | false =>
        simp only [Bool.false_eq_true, if_false, empty_append_]
        exact Ev.now _
    · have hd := ih (m / 10) neg (⟨#[UInt8.ofNat (48 + m % 10)]⟩ ++ out) (by rw [Nat.pow_succ] at h; omega) (by omega) (by intro h; have := hn h; omega)
        (by rw [ByteArray.size_append]; show 1 + _ + _ ≤ _; omega)
      have hsz : (⟨#[UInt8.ofNat (48 + m % 10)]⟩ : ByteArray).size + out.size ≤ 9223372036854775807 := by show 1 + out.size ≤ _; omega
      have hdig : strOfNums [(wrap64 (48 + ((m % 10 : Nat) : Int))) % 256] = ⟨#[UInt8.ofNat (48 + m % 10)]⟩ := digit_str (by omega) (by omega)
      have hres : (if m / 10 = 0 then (⟨#[]⟩ : ByteArray) else dgs (m / 10)) ++ (⟨#[UInt8.ofNat (48 + m % 10)]⟩ ++ out) = (if m = 0 then ⟨#[]⟩ else dgs m) ++ out := by
        rw [if_neg h0]
        by_cases h9 : m < 10
        · rw [if_pos (by omega), dgs_lt h9, empty_append_, Nat.mod_eq_of_lt h9]
        · rw [if_neg (by omega), dgs_ge h9, append_assoc_]
      rw [hres] at hd
      refine Ev.shift ?_
      cases neg with
      | false =>
        have hm' := hn rfl
        have c1 : ¬ ((m : Int) = 0) := by omega
        have c2 : ¬ (((m % 10 : Nat) : Int) < 0) := by omega
        have c3 : wrap64 ((m / 10 : Nat) : Int) = ((m / 10 : Nat) : Int) := w64 (by omega) (by omega)
        simp only [Bool.false_eq_true, if_false] at hd
        simp only [Bool.false_eq_true, if_false, spec_Digits.l0, c1, tmod_pos, c2, Option.bind_some, hdig, hsz, if_true, tdiv_pos, c3]
        exact hd
      | true =>
        have c1 : ¬ (-(m : Int) = 0) := by omega
        have c3 : wrap64 (-((m / 10 : Nat) : Int)) = -((m / 10 : Nat) : Int) := w64 (by omega) (by omega)
        simp only [if_true] at hd
        by_cases hz : m % 10 = 0
        · have c2 : ¬ (-((m % 10 : Nat) : Int) < 0) := by omega
          have hdig' : strOfNums [(wrap64 (48 + -((m % 10 : Nat) : Int))) % 256] = ⟨#[UInt8.ofNat (48 + m % 10)]⟩ := by rw [hz]; decide +kernel
          simp only [if_true, spec_Digits.l0, c1, if_false, tmod_neg, c2, Option.bind_some, hdig', hsz, tdiv_neg, c3]
          exact hd
        · have c2 : -((m % 10 : Nat) : Int) < 0 := by omega
          have c4 : wrap64 (-(-((m % 10 : Nat) : Int))) = ((m % 10 : Nat) : Int) := by rw [Int.neg_neg]; exact w64 (by omega) (by omega)
          simp only [if_true, spec_Digits.l0, c1, if_false, tmod_neg, c2, c4, Option.bind_some, hdig, hsz, tdiv_neg, c3]
          exact hd
theorem spec_Digits_ev (n : Int) (h0 : -9223372036854775808 ≤ n) (h1 : n < 9223372036854775808) : Ev (fun k => spec_Digits.f k n) (dstr n) := by
  by_cases hz : n = 0
  · subst hz
    simp only [spec_Digits.f, if_true]
    refine Ev.val ?_
    unfold dstr
    rw [if_neg (by omega)]
    exact (dgs_lt (n := 0) (by decide)).symm
  · have h := spec_loop (decide (n < 0)) 19 n.natAbs (decide (n < 0)) ⟨#[]⟩ (by omega) (by omega) (by intro h; have : ¬ n < 0 := of_decide_eq_false h; omega) (by show 0 + 19 ≤ 100; omega)
    have e : (if decide (n < 0) = true then -(n.natAbs : Int) else (n.natAbs : Int)) = n := by
      by_cases hn : n < 0
      · rw [if_pos (decide_eq_true hn)]; omega
      · rw [if_neg (by simpa using hn)]; omega
    rw [e] at h
    simp only [spec_Digits.f, hz, if_false]
    refine h.to ?_
    unfold dstr
    rw [append_empty_, if_neg (show ¬ n.natAbs = 0 by omega)]
    by_cases hn : n < 0
    · rw [if_pos (decide_eq_true hn), if_pos hn]
    · rw [if_neg (by simpa using hn), if_neg hn, empty_append_]
theorem impl_Digits_nat : ∀ (d m : Nat), m < 10 ^ (d + 1) → m < 9223372036854775808 → d ≤ 30 → Ev (fun k => impl_Digits.f k (m : Int)) (dgs m) := by
  intro d
  induction d with
  | zero =>
    intro m h hm _
    have h9 : m < 10 := by simpa using h
    refine Ev.shift ?_
    have c1 : ¬ ((m : Int) < 0) := by omega
    have c2 : (m : Int) < 10 := by omega
    simp only [impl_Digits.f, c1, if_false]
    refine Ev.shift ?_
    simp only [impl_Digits.j0, Bool.false_eq_true, c1, if_false, c2, if_true, digit_enc (d := (m : Int)) (by omega) (by omega)]
    refine Ev.val ?_
    rw [dgs_lt h9, Int.toNat_natCast]
  | succ d ih =>
    intro m h hm hd
    by_cases h9 : m < 10
    · exact ih m (by have : 10 ^ 1 ≤ 10 ^ (d + 1) := Nat.pow_le_pow_right (by decide) (by omega); omega) hm (by omega)
    · have h1 := ih (m / 10) (by rw [Nat.pow_succ] at h; omega) (by omega) (by omega)
      have hs := dgs_size 18 (m / 10) (by omega)
      refine Ev.shift ?_
      have c1 : ¬ ((m : Int) < 0) := by omega
      have c2 : ¬ ((m : Int) < 10) := by omega
      simp only [impl_Digits.f, c1, if_false]
      refine Ev.shift ?_
      have e1 : wrap64 ((m / 10 : Nat) : Int) = ((m / 10 : Nat) : Int) := w64 (by omega) (by omega)
      have e2 : Go.Utf8.encode (wrap32 (wrap64 (48 + ((m % 10 : Nat) : Int)))) = ⟨#[UInt8.ofNat (48 + m % 10)]⟩ := digit_enc (by omega) (by omega)
      have c3 : (dgs (m / 10)).size + (⟨#[UInt8.ofNat (48 + m % 10)]⟩ : ByteArray).size ≤ 9223372036854775807 := by show _ + 1 ≤ _; omega
      simp only [impl_Digits.j0, Bool.false_eq_true, c1, if_false, c2, tdiv_pos, tmod_pos, e1, e2]
      refine Ev.bind h1 ?_
      simp only [c3, if_true]
      exact Ev.val (dgs_ge h9).symm
theorem impl_Digits_ev (n : Int) (h0 : -9223372036854775808 ≤ n) (h1 : n < 9223372036854775808) : Ev (fun k => impl_Digits.f k n) (dstr n) := by
  by_cases hn : n < 0
  · obtain ⟨m, rfl⟩ : ∃ m : Nat, n = -(m : Int) := ⟨n.natAbs, by omega⟩
    have ed : dstr (-(m : Int)) = ⟨#[45]⟩ ++ dgs m := by unfold dstr; rw [if_pos hn, Int.natAbs_neg, Int.natAbs_natCast]
    rw [ed]
    refine Ev.shift ?_
    simp only [impl_Digits.f, hn, if_true]
    refine Ev.shift ?_
    by_cases h9 : -(m : Int) > -10
    · have hd := impl_Digits_nat 18 m (by omega) (by omega) (by decide)
      have hs := dgs_size 18 m (by omega)
      have e1 : wrap64 (-(-(m : Int))) = (m : Int) := by rw [Int.neg_neg]; exact w64 (by omega) (by omega)
      have c : 1 + (dgs m).size ≤ 9223372036854775807 := by omega
      simp only [impl_Digits.j0, h9, decide_true, if_true, e1]
      refine Ev.bind hd ?_
      simp only [c, if_true]
      exact Ev.now _
    · have hq : Ev (fun k => impl_Digits.f k (-((m / 10 : Nat) : Int))) (dstr (-((m / 10 : Nat) : Int))) := impl_Digits_ev (-((m / 10 : Nat) : Int)) (by omega) (by omega)
      have hr := impl_Digits_nat 18 (m % 10) (by omega) (by omega) (by decide)
      have e0 : dstr (-((m / 10 : Nat) : Int)) = ⟨#[45]⟩ ++ dgs (m / 10) := by unfold dstr; rw [if_pos (by omega), Int.natAbs_neg, Int.natAbs_natCast]
      have hs := dgs_size 18 (m / 10) (by omega)
      have hs' := dgs_size 0 (m % 10) (by simp; omega)
      have e1 : wrap64 (-((m / 10 : Nat) : Int)) = -((m / 10 : Nat) : Int) := w64 (by omega) (by omega)
      have e2 : wrap64 (-(-((m % 10 : Nat) : Int))) = ((m % 10 : Nat) : Int) := by rw [Int.neg_neg]; exact w64 (by omega) (by omega)
      have c : (dstr (-((m / 10 : Nat) : Int))).size + (dgs (m % 10)).size ≤ 9223372036854775807 := by
        rw [e0, ByteArray.size_append]; show 1 + _ + _ ≤ _; omega
      simp only [impl_Digits.j0, h9, decide_false, Bool.false_eq_true, hn, if_false, if_true, tdiv_neg, tmod_neg, e1, e2]
      refine Ev.bind hq (Ev.bind hr ?_)
      simp only [c, if_true]
      refine Ev.val ?_
      rw [e0, append_assoc_, dgs_ge (n := m) (by omega), dgs_lt (show m % 10 < 10 by omega)]
  · obtain ⟨m, rfl⟩ : ∃ m : Nat, n = (m : Int) := ⟨n.toNat, by omega⟩
    have ed : dstr (m : Int) = dgs m := by unfold dstr; rw [if_neg hn, Int.natAbs_natCast]
    rw [ed]
    exact impl_Digits_nat 18 m (by omega) (by omega) (by decide)
termination_by n.natAbs
decreasing_by omega
def keyB (b : Int) : Bool := decide (0 ≤ b ∧ b ≤ 3)
def valB (c : Int) : Bool := decide (1 ≤ c ∧ c ≤ 6)
def clsB (b : Int) : Bool := decide (0 ≤ b ∧ b ≤ 2)
def opOk (a b c : Int) : Bool :=
  if a = 1 then keyB b && valB c else if a = 2 then keyB b && valB c else if a = 3 then keyB b && (c == 0) else if a = 4 then keyB b && (c == 0)
  else if a = 5 then (b == 0) && valB c else if a = 6 then clsB b && (c == 0) else if a = 7 then (b == 0) && (c == 0) else if a = 8 then (b == 0) && (c == 0) else if a = 9 then (b == 0) && (c == 0)
  else if a = 10 then (b == 0) && valB c else false
theorem in_dec (n lo hi : Int) : (if n ≥ lo then some (decide (n ≤ hi)) else some false) = some (decide (lo ≤ n ∧ n ≤ hi)) := by
  by_cases h : n ≥ lo
  · have h' : lo ≤ n := h
    simp [h, h']
  · have h' : ¬ lo ≤ n := h
    simp [h, h']
theorem specIn_eq (n lo hi : Int) : spec_l1In.f n lo hi = some (decide (lo ≤ n ∧ n ≤ hi)) := in_dec n lo hi
theorem implFrom_eq (n lo hi : Int) : impl_from.f n lo hi = some (decide (lo ≤ n ∧ n ≤ hi)) := in_dec n lo hi
theorem spec_OpOk_at (a b c : Int) (h : 1 ≤ a ∧ a ≤ 10) (k : Nat) : spec_OpOk.f (k + 1 + 1) a b c = some (opOk a b c) := by
  have h' : a = 1 ∨ a = 2 ∨ a = 3 ∨ a = 4 ∨ a = 5 ∨ a = 6 ∨ a = 7 ∨ a = 8 ∨ a = 9 ∨ a = 10 := by omega
  simp only [spec_OpOk.f, spec_OpOk.j0, spec_OpOk.j1, spec_l4Key.f, spec_l4Val.f, spec_KeyOk.f, spec_ValOk.f, specIn_eq, Option.bind_some, opOk, keyB, valB, clsB]
  generalize decide (0 ≤ b ∧ b ≤ 3) = kb
  generalize decide (1 ≤ c ∧ c ≤ 6) = vc
  generalize decide (0 ≤ b ∧ b ≤ 2) = cb
  generalize (b == 0) = b0
  generalize (c == 0) = c0
  rcases h' with rfl | rfl | rfl | rfl | rfl | rfl | rfl | rfl | rfl | rfl <;> cases kb <;> cases vc <;> cases cb <;> cases b0 <;> cases c0 <;> rfl
theorem spec_OpOk_ev (a b c : Int) : Ev (fun k => spec_OpOk.f k a b c) (opOk a b c) := by
  by_cases h : 1 ≤ a ∧ a ≤ 10
  · refine Ev.shift (Ev.shift ?_)
    simp only [spec_OpOk_at a b c h]
    exact Ev.now _
  · have : opOk a b c = false := by
      unfold opOk
      rw [if_neg (by omega), if_neg (by omega), if_neg (by omega), if_neg (by omega), if_neg (by omega), if_neg (by omega), if_neg (by omega), if_neg (by omega), if_neg (by omega), if_neg (by omega)]
    rw [this]
    simp only [spec_OpOk.f, specIn_eq, Option.bind_some, h, decide_false, Bool.false_eq_true, if_false]
    exact Ev.now _
theorem impl_OpOk_at (a b c : Int) (h : 1 ≤ a ∧ a ≤ 10) (k : Nat) : impl_OpOk.f (k + 1 + 1 + 1) a b c = some (opOk a b c) := by
  have h' : a = 1 ∨ a = 2 ∨ a = 3 ∨ a = 4 ∨ a = 5 ∨ a = 6 ∨ a = 7 ∨ a = 8 ∨ a = 9 ∨ a = 10 := by omega
  have e1 : (if b = 0 then some (c == 0) else some false) = some ((b == 0) && (c == 0)) := by by_cases hb : b = 0 <;> simp [hb]
  have e2 : (if b = 0 then some (decide (1 ≤ c ∧ c ≤ 6)) else some false) = some ((b == 0) && decide (1 ≤ c ∧ c ≤ 6)) := by by_cases hb : b = 0 <;> simp [hb]
  simp only [impl_OpOk.f, impl_OpOk.j0, impl_OpOk.j1, impl_OpOk.j2, impl_KeyOk.f, impl_ValOk.f, impl_isClass.f, implFrom_eq, Option.bind_some, opOk, keyB, valB, clsB, e1, e2]
  generalize decide (0 ≤ b ∧ b ≤ 3) = kb
  generalize decide (1 ≤ c ∧ c ≤ 6) = vc
  generalize decide (0 ≤ b ∧ b ≤ 2) = cb
  generalize (b == 0) = b0
  generalize (c == 0) = c0
  rcases h' with rfl | rfl | rfl | rfl | rfl | rfl | rfl | rfl | rfl | rfl <;> cases kb <;> cases vc <;> cases cb <;> cases b0 <;> cases c0 <;> rfl
theorem impl_OpOk_ev (a b c : Int) : Ev (fun k => impl_OpOk.f k a b c) (opOk a b c) := by
  refine Ev.shift (Ev.shift (Ev.shift ?_))
  by_cases h : 1 ≤ a ∧ a ≤ 10
  · simp only [impl_OpOk_at a b c h]
    exact Ev.now _
  · have : opOk a b c = false := by
      unfold opOk
      rw [if_neg (by omega), if_neg (by omega), if_neg (by omega), if_neg (by omega), if_neg (by omega), if_neg (by omega), if_neg (by omega), if_neg (by omega), if_neg (by omega), if_neg (by omega)]
    rw [this]
    have h1 : ¬ a = 1 := by omega
    have h2 : ¬ a = 2 := by omega
    have h3 : ¬ a = 3 := by omega
    have h4 : ¬ a = 4 := by omega
    have h5 : ¬ a = 5 := by omega
    have h6 : ¬ a = 6 := by omega
    have h7 : ¬ a = 7 := by omega
    have h8 : ¬ a = 8 := by omega
    have h9 : ¬ a = 9 := by omega
    have h10 : ¬ a = 10 := by omega
    simp only [impl_OpOk.f, impl_OpOk.j0, impl_OpOk.j1, impl_OpOk.j2, h1, h2, h3, h4, h5, h6, h7, h8, h9, h10, beq_iff_eq, if_false]
    exact Ev.now _
def i64in (n : Int) : Prop := -9223372036854775808 ≤ n ∧ n < 9223372036854775808
def opNames : List ByteArray := [⟨#[]⟩, ⟨#[112, 117, 116]⟩, ⟨#[115, 101, 116]⟩, ⟨#[100, 101, 108]⟩, ⟨#[103, 101, 116]⟩, ⟨#[102, 105, 110, 100]⟩, ⟨#[99, 111, 117, 110, 116]⟩, ⟨#[115, 99, 97, 110]⟩, ⟨#[111, 112, 101, 110]⟩, ⟨#[109, 97, 107, 101]⟩, ⟨#[118, 105, 97]⟩]
def opName (a : Int) : ByteArray := rdOf ByteArray.empty opNames a
def hasK (a : Int) : Bool := decide (1 ≤ a ∧ a ≤ 4) || (a == 6)
def hasV (a : Int) : Bool := (a == 1) || (a == 2) || (a == 5) || (a == 10)
def sp1 : ByteArray := ⟨#[32]⟩
def withK (x : ByteArray) (a b : Int) : ByteArray := if hasK a = true then x ++ (sp1 ++ dstr b) else x
def withV (x : ByteArray) (a c : Int) : ByteArray := if hasV a = true then x ++ (sp1 ++ dstr c) else x
def optext (a b c : Int) : ByteArray := if opOk a b c = true then withV (withK (opName a) a b) a c else ⟨#[110, 111, 110, 101]⟩
theorem withK_size {x : ByteArray} {b : Int} (a : Int) (hb : i64in b) : (withK x a b).size ≤ x.size + 21 := by
  have := dstr_size hb.1 hb.2
  unfold withK
  split
  · simp only [ByteArray.size_append]; show _ + (1 + _) ≤ _; omega
  · omega
theorem withV_size {x : ByteArray} {c : Int} (a : Int) (hc : i64in c) : (withV x a c).size ≤ x.size + 21 := by
  have := dstr_size hc.1 hc.2
  unfold withV
  split
  · simp only [ByteArray.size_append]; show _ + (1 + _) ≤ _; omega
  · omega
theorem opOk_kind {a b c : Int} (h : opOk a b c = true) : 1 ≤ a ∧ a ≤ 10 := by
  apply Classical.byContradiction
  intro hn
  have : opOk a b c = false := by
    unfold opOk
    rw [if_neg (by omega), if_neg (by omega), if_neg (by omega), if_neg (by omega), if_neg (by omega), if_neg (by omega), if_neg (by omega), if_neg (by omega), if_neg (by omega), if_neg (by omega)]
  rw [this] at h
  cases h
theorem opName_size {a : Int} (h0 : 1 ≤ a) (h1 : a ≤ 10) : (opName a).size ≤ 5 := by
  have : a = 1 ∨ a = 2 ∨ a = 3 ∨ a = 4 ∨ a = 5 ∨ a = 6 ∨ a = 7 ∨ a = 8 ∨ a = 9 ∨ a = 10 := by omega
  rcases this with rfl | rfl | rfl | rfl | rfl | rfl | rfl | rfl | rfl | rfl <;> decide +kernel
theorem optext_size {a b c : Int} (hb : i64in b) (hc : i64in c) : (optext a b c).size ≤ 47 := by
  unfold optext
  split
  · rename_i h
    have hk := opOk_kind h
    have h1 := opName_size hk.1 hk.2
    have h2 := withK_size (x := opName a) a hb
    have h3 := withV_size (x := withK (opName a) a b) a hc
    omega
  · show 4 ≤ 47; decide
theorem spec_j1_ev (x : ByteArray) (a b c : Int) (hx : x.size ≤ 1000) (hc : i64in c) : Ev (fun k => spec_OpText.j1 k x a b c) (withV x a c) := by
  have hs := dstr_size hc.1 hc.2
  refine Ev.shift ?_
  have hv : spec_l4Val.f a = some (hasV a) := by
    unfold spec_l4Val.f hasV
    by_cases h1 : a = 1
    · simp [h1]
    · by_cases h2 : a = 2
      · simp [h2]
      · by_cases h5 : a = 5
        · simp [h5]
        · simp [h1, h2, h5]
  simp only [spec_OpText.j1, hv, Option.bind_some, withV]
  by_cases h : hasV a = true
  · have c1 : x.size + 1 ≤ 9223372036854775807 := by omega
    have c2 : (x ++ (⟨#[32]⟩ : ByteArray)).size + (dstr c).size ≤ 9223372036854775807 := by rw [ByteArray.size_append]; show _ + 1 + _ ≤ _; omega
    simp only [h, c1, if_true]
    refine Ev.bind (spec_Digits_ev c hc.1 hc.2) ?_
    simp only [c2, if_true]
    exact Ev.val ByteArray.append_assoc
  · simp only [h, if_false]
    exact Ev.now _
theorem spec_j0_ev (x : ByteArray) (f : Bool) (a b c : Int) (hx : x.size ≤ 500) (hb : i64in b) (hc : i64in c) : Ev (fun k => spec_OpText.j0 k x f a b c) (withV (if f = true then x ++ (sp1 ++ dstr b) else x) a c) := by
  have hs := dstr_size hb.1 hb.2
  refine Ev.shift ?_
  simp only [spec_OpText.j0]
  cases f
  · simp only [Bool.false_eq_true, if_false]
    exact spec_j1_ev x a b c (by omega) hc
  · have c1 : x.size + 1 ≤ 9223372036854775807 := by omega
    have c2 : (x ++ (⟨#[32]⟩ : ByteArray)).size + (dstr b).size ≤ 9223372036854775807 := by rw [ByteArray.size_append]; show _ + 1 + _ ≤ _; omega
    simp only [c1, if_true]
    refine Ev.bind (spec_Digits_ev b hb.1 hb.2) ?_
    simp only [c2, if_true]
    have e : x ++ (⟨#[32]⟩ : ByteArray) ++ dstr b = x ++ (sp1 ++ dstr b) := ByteArray.append_assoc
    rw [e]
    exact spec_j1_ev _ a b c (by simp only [ByteArray.size_append]; show _ + (1 + _) ≤ _; omega) hc
theorem spec_OpText_ev (a b c : Int) (hb : i64in b) (hc : i64in c) : Ev (fun k => spec_OpText.f k a b c) (optext a b c) := by
  simp only [spec_OpText.f, optext]
  refine Ev.bind (spec_OpOk_ev a b c) ?_
  by_cases h : opOk a b c = true
  · have hk := opOk_kind h
    have hn := opName_size hk.1 hk.2
    have c1 : 0 ≤ a := by omega
    have c2 : a < ((opNames.length : Nat) : Int) := by show a < ((11 : Nat) : Int); omega
    have hl : spec_l14Names.f = some opNames := rfl
    have hkey : spec_l4Key.f a = some (decide (1 ≤ a ∧ a ≤ 4)) := by simp only [spec_l4Key.f, specIn_eq, Option.bind_some]
    simp only [h, if_true, hl, Option.bind_some, c1, c2, hkey]
    by_cases hk4 : 1 ≤ a ∧ a ≤ 4
    · have := spec_j0_ev (opName a) true a b c (by omega) hb hc
      simp only [hk4, decide_true, if_true, and_self]
      have e : withK (opName a) a b = opName a ++ (sp1 ++ dstr b) := by
        unfold withK hasK
        rw [if_pos (by simp [hk4])]
      rw [e]
      exact this
    · have := spec_j0_ev (opName a) (a == 6) a b c (by omega) hb hc
      simp only [hk4, decide_false, Bool.false_eq_true, if_false]
      have e : withK (opName a) a b = if (a == 6) = true then opName a ++ (sp1 ++ dstr b) else opName a := by
        unfold withK hasK
        simp [hk4]
      rw [e]
      exact this
  · simp only [h, if_false]
    exact Ev.now _
theorem opWord_eq {a : Int} (h0 : 1 ≤ a) (h1 : a ≤ 10) : impl_opWord.f a = some (opName a, hasK a, hasV a) := by
  have : a = 1 ∨ a = 2 ∨ a = 3 ∨ a = 4 ∨ a = 5 ∨ a = 6 ∨ a = 7 ∨ a = 8 ∨ a = 9 ∨ a = 10 := by omega
  rcases this with rfl | rfl | rfl | rfl | rfl | rfl | rfl | rfl | rfl | rfl <;> rfl
theorem impl_OpText_ev (a b c : Int) (hb : i64in b) (hc : i64in c) : Ev (fun k => impl_OpText.f k a b c) (optext a b c) := by
  simp only [impl_OpText.f, optext]
  refine Ev.bind (impl_OpOk_ev a b c) ?_
  by_cases h : opOk a b c = true
  · have hk := opOk_kind h
    have hn := opName_size hk.1 hk.2
    have hsb := dstr_size hb.1 hb.2
    have hsc := dstr_size hc.1 hc.2
    have b1 : 1 + (dstr b).size ≤ 9223372036854775807 := by omega
    have b2 : (opName a).size + ((⟨#[32]⟩ : ByteArray) ++ dstr b).size ≤ 9223372036854775807 := by rw [ByteArray.size_append]; show _ + (1 + _) ≤ _; omega
    have c1 : 1 + (dstr c).size ≤ 9223372036854775807 := by omega
    have c2 : (opName a ++ ((⟨#[32]⟩ : ByteArray) ++ dstr b)).size + ((⟨#[32]⟩ : ByteArray) ++ dstr c).size ≤ 9223372036854775807 := by simp only [ByteArray.size_append]; show _ + (1 + _) + (1 + _) ≤ _; omega
    have c3 : (opName a).size + ((⟨#[32]⟩ : ByteArray) ++ dstr c).size ≤ 9223372036854775807 := by rw [ByteArray.size_append]; show _ + (1 + _) ≤ _; omega
    simp only [h, if_true, opWord_eq hk.1 hk.2, Option.bind_some, withK, withV]
    cases hK : hasK a
    · cases hV : hasV a
      · simp only [Bool.false_eq_true, if_false]
        exact Ev.now _
      · simp only [Bool.false_eq_true, if_false, if_true]
        refine Ev.bind (impl_Digits_ev c hc.1 hc.2) ?_
        simp only [c1, c3, if_true]
        exact Ev.now _
    · cases hV : hasV a
      · simp only [Bool.false_eq_true, if_false, if_true]
        refine Ev.bind (impl_Digits_ev b hb.1 hb.2) ?_
        simp only [b1, b2, if_true]
        exact Ev.now _
      · simp only [if_true]
        refine Ev.bind (impl_Digits_ev b hb.1 hb.2) ?_
        simp only [b1, b2, if_true]
        refine Ev.bind (impl_Digits_ev c hc.1 hc.2) ?_
        simp only [c1, c2, if_true]
        exact Ev.now _
  · simp only [h, if_false]
    exact Ev.now _
section
variable {α β : Type} {P : α → Prop} {Q : β → Prop}
def Gets {α : Type} (g : Nat → Option α) (P : α → Prop) : Prop := ∃ r, Ev g r ∧ P r
theorem Gets.of {g : Nat → Option α} {r : α} (h : Ev g r) (p : P r) : Gets g P := ⟨r, h, p⟩
theorem Gets.shift {g : Nat → Option α} (h : Gets (fun k => g (k + 1)) P) : Gets g P := by
  obtain ⟨r, e, p⟩ := h
  exact ⟨r, Ev.shift e, p⟩
theorem Gets.bind {g : Nat → Option α} {f : Nat → α → Option β} (h : Gets g P) (k : ∀ a, P a → Gets (fun n => f n a) Q) : Gets (fun n => (g n).bind fun a => f n a) Q := by
  obtain ⟨a, e, p⟩ := h
  obtain ⟨r, e2, q⟩ := k a p
  exact ⟨r, Ev.bind e e2, q⟩
theorem Gets.bindE {g : Nat → Option α} {f : Nat → α → Option β} {a : α} (h : Ev g a) (k : Gets (fun n => f n a) Q) : Gets (fun n => (g n).bind fun a => f n a) Q := by
  obtain ⟨r, e2, q⟩ := k
  exact ⟨r, Ev.bind h e2, q⟩
theorem Gets.now {r : α} (p : P r) : Gets (fun _ => some r) P := ⟨r, Ev.now r, p⟩
theorem Gets.pos {p : Prop} [Decidable p] {g f : Nat → Option α} (h : p) (hg : Gets g P) : Gets (fun k => if p then g k else f k) P := by
  simp only [if_pos h]; exact hg
theorem Gets.neg {p : Prop} [Decidable p] {g f : Nat → Option α} (h : ¬ p) (hf : Gets f P) : Gets (fun k => if p then g k else f k) P := by
  simp only [if_neg h]; exact hf
theorem Gets.ite {p : Prop} [Decidable p] {g f : Nat → Option α} (hg : p → Gets g P) (hf : ¬ p → Gets f P) : Gets (fun k => if p then g k else f k) P := by
  by_cases h : p
  · exact Gets.pos h (hg h)
  · exact Gets.neg h (hf h)
end
theorem ba_of_toList {a b : ByteArray} (h : a.toList = b.toList) : a = b := by
  rw [ByteArray.toList_eq, ByteArray.toList_eq] at h
  cases a; cases b; congr 1; exact Array.toList_inj.mp h
def sp (c : UInt8) : List UInt8 → List UInt8 → List (List UInt8)
  | cur, [] => [cur]
  | cur, b :: l => if b = c then cur :: sp c [] l else sp c (cur ++ [b]) l
def pre (cur : List UInt8) : List (List UInt8) → List (List UInt8)
  | [] => [cur]
  | x :: xs => (cur ++ x) :: xs
theorem sp_ne (c : UInt8) : ∀ (l cur : List UInt8), sp c cur l ≠ []
  | [], _ => by simp [sp]
  | b :: l, cur => by
    unfold sp
    split
    · simp
    · exact sp_ne c l _
theorem pre_nil {l : List (List UInt8)} (h : l ≠ []) : pre [] l = l := by
  cases l with
  | nil => exact absurd rfl h
  | cons x xs => simp [pre]
theorem splitK_ne (c : List UInt8) (s : Nat) : ∀ (k : Nat) (l : List UInt8), Lib.splitK c s k l ≠ []
  | 0, _ => by simp [Lib.splitK]
  | k + 1, l => by unfold Lib.splitK; split <;> simp
theorem index_pos {c : UInt8} {l : List UInt8} (h : 0 < l.count c) : ∃ i : Nat, Lib.index l [c] = i := by
  have hg := Lib.index_ge l [c]
  by_cases e : Lib.index l [c] = -1
  · exfalso
    rw [Lib.index_one] at e
    have := Lib.indexByte_none e
    have hm : c ∈ l := List.count_pos_iff.mp h
    obtain ⟨n, hn, rfl⟩ := List.getElem_of_mem hm
    exact this n (List.getElem?_eq_getElem hn)
  · exact ⟨(Lib.index l [c]).toNat, by omega⟩
theorem sp_split (c : UInt8) : ∀ (l cur : List UInt8), sp c cur l = pre cur (Lib.splitK [c] 0 (l.count c) l)
  | [], cur => by simp [sp, Lib.splitK, pre]
  | b :: l, cur => by
    unfold sp
    by_cases h : b = c
    · subst h
      rw [if_pos rfl, List.count_cons_self, sp_split b l []]
      have hi : Lib.index (b :: l) [b] = 0 := by unfold Lib.index; rw [if_pos (by simp)]
      have hk : Lib.splitK [b] 0 (l.count b + 1) (b :: l) = [] :: Lib.splitK [b] 0 (l.count b) l := by
        rw [Lib.splitK, hi, if_neg (by decide)]
        simp
      rw [pre_nil (splitK_ne _ _ _ _), hk, pre, List.append_nil]
    · rw [if_neg h, List.count_cons_of_ne (by simpa using h), sp_split c l (cur ++ [b])]
      cases hk : l.count c with
      | zero => simp [Lib.splitK, pre]
      | succ k =>
        obtain ⟨i, hi⟩ := index_pos (c := c) (l := l) (by omega)
        have hb : Lib.index (b :: l) [c] = ((i + 1 : Nat) : Int) := by
          unfold Lib.index
          rw [if_neg (by simp [List.isPrefixOf]; exact fun e => h e.symm), hi, if_neg (by first | (simp; done) | (simp; omega))]
          first | done | simp
        unfold Lib.splitK
        rw [hi, hb, if_neg (by first | (simp; done) | (simp; omega)), if_neg (by first | (simp; done) | (simp; omega))]
        simp only [Int.toNat_natCast, Nat.add_zero, List.length_singleton, pre, List.take_succ_cons, List.drop_succ_cons, List.append_assoc, List.singleton_append]
theorem sp_join (c : UInt8) : ∀ (l cur : List UInt8), Lib.join (sp c cur l) [c] = cur ++ l
  | [], cur => by rw [sp, Lib.join_one, List.append_nil]
  | b :: l, cur => by
    unfold sp
    split
    · rename_i h
      subst h
      have ih := sp_join b l []
      cases hs : sp b [] l with
      | nil => exact absurd hs (sp_ne b l [])
      | cons x xs =>
        rw [hs] at ih
        rw [Lib.join_cons] at ih ⊢
        simp only [Lib.joinTail, List.map_cons, List.flatten_cons] at ih ⊢
        rw [List.append_assoc, ih]
        simp
    · rw [sp_join c l (cur ++ [b])]
      simp
def ba (l : List UInt8) : ByteArray := ⟨l.toArray⟩
theorem ba_data (s : ByteArray) : ba s.data.toList = s := by cases s; rfl
def parts (c : UInt8) (s : ByteArray) : List ByteArray := (sp c [] s.data.toList).map ba
theorem parts_ne (c : UInt8) (s : ByteArray) : 0 < (parts c s).length := by
  unfold parts
  rw [List.length_map]
  exact List.length_pos_iff.mpr (sp_ne c _ _)
theorem sp_len (c : UInt8) : ∀ (l cur x : List UInt8), x ∈ sp c cur l → x.length ≤ cur.length + l.length
  | [], cur, x, h => by simp only [sp, List.mem_singleton] at h; subst h; simp
  | b :: l, cur, x, h => by
    unfold sp at h
    split at h
    · simp only [List.mem_cons] at h
      rcases h with rfl | h
      · omega
      · have := sp_len c l [] x h
        simp only [List.length_nil, List.length_cons] at this ⊢
        omega
    · have := sp_len c l _ x h
      rw [List.length_append] at this
      simp at this ⊢
      omega
theorem parts_size {c : UInt8} {s x : ByteArray} (h : x ∈ parts c s) : x.size ≤ s.size := by
  obtain ⟨l, hl, rfl⟩ := List.mem_map.mp h
  have := sp_len c _ _ l hl
  simp only [List.length_nil, Nat.zero_add, Array.length_toList] at this
  exact this
theorem parts_rd (c : UInt8) (s : ByteArray) (i : Int) : (rdOf ByteArray.empty (parts c s) i).size ≤ s.size := by
  unfold rdOf
  rw [List.getD_eq_getElem?_getD]
  cases h : (parts c s)[i.toNat]? with
  | none => exact Nat.zero_le _
  | some x => exact parts_size (List.mem_of_getElem? h)
theorem split_parts (s : ByteArray) (c : UInt8) : Lib.splitB ⟨#[c]⟩ 0 (Lib.countB s ⟨#[c]⟩) s = parts c s := by
  have h := Lib.splitB_data (⟨#[c]⟩ : ByteArray) 0 (Lib.countB s ⟨#[c]⟩) s
  have e : Lib.countB s ⟨#[c]⟩ = s.data.toList.count c := Lib.count_one c _
  have h2 : (Lib.splitB ⟨#[c]⟩ 0 (Lib.countB s ⟨#[c]⟩) s).map (·.data.toList) = sp c [] s.data.toList := by
    rw [h, sp_split, pre_nil (splitK_ne _ _ _ _), e]
  unfold parts
  rw [← h2, List.map_map]
  have : (ba ∘ fun x : ByteArray => x.data.toList) = id := by funext x; exact ba_data x
  rw [this, List.map_id]
theorem impl_Split_eq (s : ByteArray) (c : UInt8) (a : Int) (ha : strOfNums [a] = ⟨#[c]⟩) (hs : s.size ≤ 1048576) : impl_Split.f s a = some (parts c s) := by
  simp only [impl_Split.f, ha, strings_Split.f]
  rw [if_pos ⟨by omega, rfl⟩, Option.bind_some, split_parts]
theorem bt_getElem {s : ByteArray} {i : Nat} (h : i < s.data.toList.length) : bt s (i : Int) = (s.data.toList[i].toNat : Int) := by
  have h2 : i < s.size := by rw [Array.length_toList] at h; exact h
  unfold bt
  rw [dif_pos (show (i : Int).toNat < s.size from h2)]
  rfl
theorem spec_Split_ev (s : ByteArray) (c : UInt8) (hs : s.size ≤ 1048576) : Ev (fun k => spec_Split.f k s (c.toNat : Int)) (parts c s) := by
  have hlen : s.data.toList.length = s.size := Array.length_toList
  have key : ∀ i, i ≤ s.size → ∀ (out : List ByteArray) (fr : Nat), fr ≤ i → out.length ≤ i →
      Ev (fun k => spec_Split.l0 k s (c.toNat : Int) out (fr : Int) (i : Int)) (out ++ (sp c ((s.data.toList.take i).drop fr) (s.data.toList.drop i)).map ba) := by
    refine back ?_ (fun i hi ih => ?_)
    · intro out fr hf ho
      have d1 : (0 : Int) ≤ (fr : Int) := by omega
      have d2 : (fr : Int) ≤ (s.size : Int) := by omega
      have d3 : out.length < 8796093022208 := by omega
      have d4 : ¬ ((s.size : Int) + 1 ≤ (s.size : Int)) := by omega
      refine Ev.shift ?_
      simp only [spec_Split.l0, Int.le_refl, if_true, d1, d2, d3]
      rw [w64 (n := (s.size : Int) + 1) (by omega) (by omega)]
      refine Ev.shift ?_
      simp only [spec_Split.l0, d4, if_false]
      refine Ev.val ?_
      have e1 : s.data.toList.take s.size = s.data.toList := List.take_of_length_le (by omega)
      have e2 : s.data.toList.drop s.size = [] := List.drop_eq_nil_of_le (by omega)
      rw [e1, e2]
      simp only [sp, List.map_cons, List.map_nil]
      congr 2
      have := Lib.extract_to_end s fr
      rw [← this, ba_data]
      rfl
    · intro out fr hf ho
      have hi' : i < s.data.toList.length := by omega
      have d0 : (i : Int) ≤ (s.size : Int) := by omega
      have d1 : ¬ ((i : Int) = (s.size : Int)) := by omega
      have d2 : (0 : Int) ≤ (i : Int) := by omega
      have d3 : (i : Int) < (s.size : Int) := by omega
      have d4 : (0 : Int) ≤ (fr : Int) := by omega
      have d5 : (fr : Int) ≤ (i : Int) := by omega
      have d6 : out.length < 8796093022208 := by omega
      have hb := bt_getElem hi'
      have ht : s.data.toList.drop i = s.data.toList[i] :: s.data.toList.drop (i + 1) := List.drop_eq_getElem_cons hi'
      have hk : s.data.toList.take (i + 1) = s.data.toList.take i ++ [s.data.toList[i]] := List.take_succ_eq_append_getElem hi'
      refine Ev.shift ?_
      simp only [spec_Split.l0, d0, d1, d2, d3, if_true, if_false]
      rw [succ64 hi (by omega), ht]
      by_cases hc : s.data.toList[i] = c
      · have hbc : bt s (i : Int) = (c.toNat : Int) := by rw [hb, hc]
        simp only [hbc, d4, d5, d6, if_true]
        have := ih (out ++ [s.extract (fr : Int).toNat (i : Int).toNat]) (i + 1) (Nat.le_refl _) (by simp; omega)
        refine this.to ?_
        have e0 : (s.data.toList.take (i + 1)).drop (i + 1) = [] := List.drop_eq_nil_of_le (by rw [List.length_take]; omega)
        rw [e0]
        conv => rhs; rw [sp, if_pos hc]
        have e1 : s.extract (fr : Int).toNat (i : Int).toNat = ba ((s.data.toList.take i).drop fr) := by
          rw [← ba_data (s.extract _ _), Lib.extract_data]
          congr 1
          rw [Int.toNat_natCast, Int.toNat_natCast, List.drop_take]
        rw [e1, List.map_cons, List.append_assoc, List.singleton_append]
      · have hbc : ¬ (bt s (i : Int) = (c.toNat : Int)) := by
          rw [hb]
          intro e
          exact hc (UInt8.toNat_inj.mp (by omega))
        simp only [hbc, if_false]
        have := ih out fr (by omega) (by omega)
        refine this.to ?_
        conv => rhs; rw [sp, if_neg hc]
        rw [hk, List.drop_append_of_le_length (by rw [List.length_take]; omega)]
  have := key 0 (Nat.zero_le _) [] 0 (Nat.le_refl _) (Nat.le_refl _)
  simp only [spec_Split.f]
  refine this.to ?_
  simp [parts]
theorem parts_join (c : UInt8) (s : ByteArray) : Lib.join ((parts c s).map (·.data.toList)) [c] = s.data.toList := by
  unfold parts
  rw [List.map_map]
  have : ((fun x : ByteArray => x.data.toList) ∘ ba) = id := by funext x; simp [ba]
  rw [this, List.map_id, sp_join, List.nil_append]
theorem w64_in (n : Int) : i64in (wrap64 n) := by unfold i64in wrap64; omega
theorem z_in : i64in 0 := ⟨by decide, by decide⟩
theorem implNum_loop (x : ByteArray) (hx : x.size ≤ 9223372036854775807) : ∀ i, i ≤ x.size → ∀ n, i64in n → Gets (fun k => impl_Number.l0 k x n (x.size : Int) (i : Int)) (fun r => i64in r.1) := by
  refine back ?_ (fun i hi ih => ?_)
  · intro n hn
    refine Gets.shift ?_
    simp only [impl_Number.l0, Int.lt_irrefl, if_false]
    exact Gets.bindE (impl_Digits_ev n hn.1 hn.2) (Gets.ite (fun _ => Gets.now hn) (fun _ => Gets.now z_in))
  · intro n hn
    have h0 : (0 : Int) ≤ (i : Int) := by omega
    have h1 : (i : Int) < (x.size : Int) := by omega
    refine Gets.shift ?_
    simp only [impl_Number.l0, h0, h1, if_true]
    refine Gets.ite (fun _ => Gets.now z_in) (fun _ => Gets.ite (fun _ => Gets.now z_in) (fun _ => ?_))
    rw [succ64 hi hx]
    exact ih _ (w64_in _)
theorem implNum_j0 (x : ByteArray) (hx : x.size ≤ 9223372036854775807) (b : Bool) : Gets (fun k => impl_Number.j0 k x b) (fun r => i64in r.1) := by
  refine Gets.shift ?_
  simp only [impl_Number.j0]
  exact Gets.ite (fun _ => Gets.now z_in) (fun _ => implNum_loop x hx 0 (Nat.zero_le _) 0 z_in)
theorem implNum_gets (x : ByteArray) (hx : x.size ≤ 9223372036854775807) : Gets (fun k => impl_Number.f k x) (fun r => i64in r.1) := by
  simp only [impl_Number.f]
  exact Gets.ite (fun _ => implNum_j0 x hx _) (fun _ => implNum_j0 x hx _)
theorem specNum_loop (x : ByteArray) (hx : x.size ≤ 9223372036854775807) : ∀ i, i ≤ x.size → ∀ n, i64in n → Gets (fun k => spec_Number.l0 k x n (i : Int)) (fun r => i64in r.1) := by
  refine back ?_ (fun i hi ih => ?_)
  · intro n hn
    refine Gets.shift ?_
    simp only [spec_Number.l0, Int.lt_irrefl, if_false]
    exact Gets.bindE (spec_Digits_ev n hn.1 hn.2) (Gets.ite (fun _ => Gets.now hn) (fun _ => Gets.now z_in))
  · intro n hn
    have h0 : (0 : Int) ≤ (i : Int) := by omega
    have h1 : (i : Int) < (x.size : Int) := by omega
    refine Gets.shift ?_
    simp only [spec_Number.l0, h0, h1, if_true]
    refine Gets.ite (fun _ => Gets.now z_in) (fun _ => Gets.ite (fun _ => Gets.now z_in) (fun _ => ?_))
    rw [succ64 hi hx]
    exact ih _ (w64_in _)
theorem specNum_j0 (x : ByteArray) (hx : x.size ≤ 9223372036854775807) (b : Bool) : Gets (fun k => spec_Number.j0 k x b) (fun r => i64in r.1) := by
  refine Gets.shift ?_
  simp only [spec_Number.j0]
  exact Gets.ite (fun _ => Gets.now z_in) (fun _ => specNum_loop x hx 0 (Nat.zero_le _) 0 z_in)
theorem specNum_gets (x : ByteArray) (hx : x.size ≤ 9223372036854775807) : Gets (fun k => spec_Number.f k x) (fun r => i64in r.1) := by
  simp only [spec_Number.f]
  exact Gets.ite (fun _ => specNum_j0 x hx _) (fun _ => specNum_j0 x hx _)
abbrev oR := Int × Int × Int × Bool
def sound (s : ByteArray) (r : oR) : Prop := (r.2.2.2 = true → opOk r.1 r.2.1 r.2.2.1 = true ∧ optext r.1 r.2.1 r.2.2.1 = s ∧ i64in r.2.1 ∧ i64in r.2.2.1) ∧ (r.2.2.2 = false → r = (0, 0, 0, false))
theorem sound_no (s : ByteArray) : sound s (0, 0, 0, false) := ⟨fun h => (by cases h), fun _ => rfl⟩
theorem sound_yes {s : ByteArray} {a b c : Int} (h : opOk a b c = true) (e : (optext a b c).toList = s.toList) (hb : i64in b) (hc : i64in c) : sound s (a, b, c, true) := ⟨fun _ => ⟨h, ba_of_toList e, hb, hc⟩, fun h => (by cases h)⟩
theorem implOp_j4 (s : ByteArray) (a b c : Int) (hb : i64in b) (hc : i64in c) : Gets (fun k => impl_OpOf.j4 k s a b c) (sound s) := by
  refine Gets.shift ?_
  simp only [impl_OpOf.j4]
  refine Gets.bindE (impl_OpOk_ev a b c) ?_
  exact Gets.ite (fun h => Gets.bindE (impl_OpText_ev a b c hb hc) (Gets.ite (fun e => Gets.now (sound_yes h e hb hc)) (fun _ => Gets.now (sound_no s)))) (fun _ => Gets.now (sound_no s))
theorem implOp_j3 (s : ByteArray) (W : List ByteArray) (hW : ∀ i, (rdOf ByteArray.empty W i).size ≤ 9223372036854775807) (n : Int) (f : Bool) (a b c : Int) (hn : 0 ≤ n) (hf : f = true → n < (W.length : Int)) (hb : i64in b) (hc : i64in c) : Gets (fun k => impl_OpOf.j3 k s W n f a b c) (sound s) := by
  refine Gets.shift ?_
  simp only [impl_OpOf.j3]
  exact Gets.ite (fun h => Gets.pos hn (Gets.pos (hf h) (Gets.bind (implNum_gets _ (hW n)) (fun r hr => implOp_j4 s a b r.1 hb hr)))) (fun _ => implOp_j4 s a b c hb hc)
theorem implOp_j2 (s : ByteArray) (W : List ByteArray) (hW : ∀ i, (rdOf ByteArray.empty W i).size ≤ 9223372036854775807) (v : Bool) (n a b c : Int) (hn : 0 ≤ n) (hb : i64in b) (hc : i64in c) : Gets (fun k => impl_OpOf.j2 k s W v n a b c) (sound s) := by
  refine Gets.shift ?_
  simp only [impl_OpOf.j2]
  exact Gets.ite (fun h => implOp_j3 s W hW n _ a b c hn (fun h => of_decide_eq_true h) hb hc) (fun _ => implOp_j3 s W hW n _ a b c hn (fun h => by cases h) hb hc)
theorem implOp_j1 (s : ByteArray) (W : List ByteArray) (hW : ∀ i, (rdOf ByteArray.empty W i).size ≤ 9223372036854775807) (v f : Bool) (a b c : Int) (hf : f = true → 1 < (W.length : Int)) (hb : i64in b) (hc : i64in c) : Gets (fun k => impl_OpOf.j1 k s W v 1 f a b c) (sound s) := by
  refine Gets.shift ?_
  simp only [impl_OpOf.j1]
  exact Gets.ite (fun h => Gets.pos (by decide) (Gets.pos (hf h) (Gets.bind (implNum_gets _ (hW 1)) (fun r hr => implOp_j2 s W hW v _ a r.1 c (by unfold wrap64; omega) hr hc)))) (fun _ => implOp_j2 s W hW v 1 a b c (by decide) hb hc)
theorem implOp_loop (s : ByteArray) (W : List ByteArray) (hW : ∀ i, (rdOf ByteArray.empty W i).size ≤ 9223372036854775807) (hl : 0 < W.length) : ∀ i : Nat, i ≤ 11 → 1 ≤ i → Gets (fun k => impl_OpOf.l0 k s W (i : Int)) (sound s) := by
  refine back ?_ (fun i hi ih => ?_)
  · intro _
    refine Gets.shift ?_
    simp only [impl_OpOf.l0]
    exact Gets.neg (by decide) (Gets.now (sound_no s))
  · intro h1
    have d0 : (i : Int) ≤ 10 := by omega
    have d1 : (0 : Int) < (W.length : Int) := by omega
    refine Gets.shift ?_
    simp only [impl_OpOf.l0, d0, d1, if_true, opWord_eq (a := (i : Int)) (by omega) d0, Option.bind_some]
    refine Gets.ite (fun _ => Gets.ite (fun _ => implOp_j1 s W hW _ _ _ 0 0 (fun h => of_decide_eq_true h) z_in z_in) (fun _ => implOp_j1 s W hW _ _ _ 0 0 (fun h => by cases h) z_in z_in)) (fun _ => ?_)
    rw [succ64 (i := i) (n := 11) hi (by decide)]
    exact ih (by omega)
theorem specOp_j2 (s : ByteArray) (W : List ByteArray) (i a b c : Int) (hb : i64in b) (hc : i64in c) (next : Gets (fun k => spec_OpOf.l0 k s W opNames (wrap64 (i + 1))) (sound s)) : Gets (fun k => spec_OpOf.j2 k s W opNames i a b c) (sound s) := by
  refine Gets.shift ?_
  simp only [spec_OpOf.j2]
  refine Gets.bindE (spec_OpOk_ev a b c) ?_
  exact Gets.ite (fun h => Gets.bindE (spec_OpText_ev a b c hb hc) (Gets.ite (fun e => Gets.now (sound_yes h e hb hc)) (fun _ => next))) (fun _ => next)
theorem specOp_j1 (s : ByteArray) (W : List ByteArray) (hW : ∀ i, (rdOf ByteArray.empty W i).size ≤ 9223372036854775807) (i a b c : Int) (hb : i64in b) (hc : i64in c) (next : Gets (fun k => spec_OpOf.l0 k s W opNames (wrap64 (i + 1))) (sound s)) : Gets (fun k => spec_OpOf.j1 k s W opNames i a b c) (sound s) := by
  refine Gets.shift ?_
  simp only [spec_OpOf.j1]
  exact Gets.ite (fun h => Gets.pos h (Gets.bind (specNum_gets _ (hW 2)) (fun r hr => specOp_j2 s W i a b r.1 hb hr next))) (fun _ => specOp_j2 s W i a b c hb hc next)
theorem specOp_loop (s : ByteArray) (W : List ByteArray) (hW : ∀ i, (rdOf ByteArray.empty W i).size ≤ 9223372036854775807) (hl : 0 < W.length) : ∀ i : Nat, i ≤ 11 → Gets (fun k => spec_OpOf.l0 k s W opNames (i : Int)) (sound s) := by
  refine back ?_ (fun i hi ih => ?_)
  · refine Gets.shift ?_
    simp only [spec_OpOf.l0]
    exact Gets.neg (by decide) (Gets.now (sound_no s))
  · have d0 : (i : Int) < (opNames.length : Int) := by show (i : Int) < ((11 : Nat) : Int); omega
    have d1 : (0 : Int) ≤ (i : Int) := by omega
    have d2 : (0 : Int) < (W.length : Int) := by omega
    have next : Gets (fun k => spec_OpOf.l0 k s W opNames (wrap64 ((i : Int) + 1))) (sound s) := by rw [succ64 (i := i) (n := 11) hi (by decide)]; exact ih
    refine Gets.shift ?_
    simp only [spec_OpOf.l0, d0, d1, d2, if_true]
    refine Gets.ite (fun _ => Gets.ite (fun h => Gets.pos h (Gets.bind (specNum_gets _ (hW 1)) (fun r hr => ?_))) (fun _ => specOp_j1 s W hW _ _ 0 0 z_in z_in next)) (fun _ => next)
    have hkey : spec_l4Key.f (i : Int) = some (decide (1 ≤ (i : Int) ∧ (i : Int) ≤ 4)) := by simp only [spec_l4Key.f, specIn_eq, Option.bind_some]
    simp only [hkey, Option.bind_some]
    exact Gets.ite (fun _ => specOp_j1 s W hW _ _ _ 0 hr z_in next) (fun _ => Gets.ite (fun _ => specOp_j1 s W hW _ _ _ 0 hr z_in next) (fun _ => specOp_j1 s W hW _ _ 0 _ z_in hr next))
theorem implOf_gets (s : ByteArray) (hs : s.size ≤ 1048576) : Gets (fun k => impl_OpOf.f k s) (sound s) := by
  simp only [impl_OpOf.f, impl_Split_eq s 32 32 rfl hs, Option.bind_some]
  exact implOp_loop s (parts 32 s) (fun i => by have := parts_rd 32 s i; omega) (parts_ne 32 s) 1 (by decide) (by decide)
theorem specOf_gets (s : ByteArray) (hs : s.size ≤ 1048576) : Gets (fun k => spec_OpOf.f k s) (sound s) := by
  simp only [spec_OpOf.f]
  refine Gets.bindE (spec_Split_ev s 32 hs) ?_
  have hl : spec_l14Names.f = some opNames := rfl
  simp only [hl, Option.bind_some]
  exact specOp_loop s (parts 32 s) (fun i => by have := parts_rd 32 s i; omega) (parts_ne 32 s) 1 (by decide)
def dg1 (n : Nat) : ByteArray := ⟨#[UInt8.ofNat (48 + n)]⟩
def txt1 (a b c : Nat) : ByteArray := (if hasV (a : Int) = true then (if hasK (a : Int) = true then opName a ++ (sp1 ++ dg1 b) else opName a) ++ (sp1 ++ dg1 c) else (if hasK (a : Int) = true then opName a ++ (sp1 ++ dg1 b) else opName a))
def one1 (a b c : Nat) : Bool := !(opOk a b c) || (decide (impl_OpOf.f 40 (txt1 a b c) = some ((a : Int), (b : Int), (c : Int), true)) && decide (spec_OpOf.f 40 (txt1 a b c) = some ((a : Int), (b : Int), (c : Int), true)))
def all1 : Bool := (List.range 11).all fun a => (List.range 4).all fun b => (List.range 7).all fun c => one1 a b c
set_option maxRecDepth 100000 in
theorem all1_true : all1 = true := by decide +kernel
theorem opOk_small {a b c : Int} (h : opOk a b c = true) : 1 ≤ a ∧ a ≤ 10 ∧ 0 ≤ b ∧ b ≤ 3 ∧ 0 ≤ c ∧ c ≤ 6 := by
  have hk := opOk_kind h
  have : a = 1 ∨ a = 2 ∨ a = 3 ∨ a = 4 ∨ a = 5 ∨ a = 6 ∨ a = 7 ∨ a = 8 ∨ a = 9 ∨ a = 10 := by omega
  rcases this with rfl | rfl | rfl | rfl | rfl | rfl | rfl | rfl | rfl | rfl <;> simp [opOk, keyB, valB, clsB] at h <;> omega
theorem optext_txt1 {a b c : Nat} (h : opOk a b c = true) : optext a b c = txt1 a b c := by
  have hs := opOk_small h
  have hd : ∀ n : Nat, n < 10 → dstr (n : Int) = dg1 n := by
    intro n hn
    unfold dstr
    rw [if_neg (by omega), Int.natAbs_natCast, dgs_lt hn]
    rfl
  unfold optext txt1 withV withK
  rw [if_pos h, hd b (by omega), hd c (by omega)]
theorem of_text {a b c : Int} (h : opOk a b c = true) : Ev (fun k => impl_OpOf.f k (optext a b c)) (a, b, c, true) ∧ Ev (fun k => spec_OpOf.f k (optext a b c)) (a, b, c, true) := by
  have hs := opOk_small h
  obtain ⟨m, rfl⟩ : ∃ m : Nat, a = (m : Int) := ⟨a.toNat, by omega⟩
  obtain ⟨n, rfl⟩ : ∃ n : Nat, b = (n : Int) := ⟨b.toNat, by omega⟩
  obtain ⟨p, rfl⟩ : ∃ p : Nat, c = (p : Int) := ⟨c.toNat, by omega⟩
  have h1 : one1 m n p = true := by
    have := all1_true
    unfold all1 at this
    rw [List.all_eq_true] at this
    have := this m (List.mem_range.mpr (by omega))
    rw [List.all_eq_true] at this
    have := this n (List.mem_range.mpr (by omega))
    rw [List.all_eq_true] at this
    exact this p (List.mem_range.mpr (by omega))
  unfold one1 at h1
  rw [h, Bool.not_true, Bool.false_or, Bool.and_eq_true] at h1
  rw [optext_txt1 h]
  exact ⟨Ev.of (fun k => impl_OpOf.mono _ k) (of_decide_eq_true h1.1), Ev.of (fun k => spec_OpOf.mono _ k) (of_decide_eq_true h1.2)⟩
theorem opOf_both (s : ByteArray) (hs : s.size ≤ 1048576) : ∃ r, Ev (fun k => impl_OpOf.f k s) r ∧ Ev (fun k => spec_OpOf.f k s) r ∧ sound s r := by
  obtain ⟨r, hr, pr⟩ := implOf_gets s hs
  obtain ⟨q, hq, pq⟩ := specOf_gets s hs
  suffices e : r = q by subst e; exact ⟨r, hr, hq, pr⟩
  obtain ⟨a, b, c, d⟩ := r
  obtain ⟨a2, b2, c2, d2⟩ := q
  cases d with
  | true =>
    obtain ⟨h1, h2, _⟩ := pr.1 rfl
    have := (of_text h1).2
    rw [h2] at this
    exact (Ev.det hq this).symm
  | false =>
    have e1 := pr.2 rfl
    cases d2 with
    | true =>
      obtain ⟨h1, h2, _⟩ := pq.1 rfl
      have := (of_text h1).1
      rw [h2] at this
      exact Ev.det hr this
    | false => rw [e1, pq.2 rfl]
def jn (sep : ByteArray) (l : List ByteArray) : ByteArray := ⟨(Lib.join (l.map (·.data.toList)) sep.data.toList).toArray⟩
theorem jn_nil (sep : ByteArray) : jn sep [] = ⟨#[]⟩ := rfl
theorem ba_ext {a b : ByteArray} (h : a.data.toList = b.data.toList) : a = b := by
  cases a; cases b; congr 1; exact Array.toList_inj.mp h
theorem jn_data (sep : ByteArray) (l : List ByteArray) : (jn sep l).data.toList = Lib.join (l.map (·.data.toList)) sep.data.toList := rfl
theorem app_data (a b : ByteArray) : (a ++ b).data.toList = a.data.toList ++ b.data.toList := by rw [ByteArray.data_append, Array.toList_append]
theorem jn_one (sep x : ByteArray) : jn sep [x] = x := by
  apply ba_ext; rw [jn_data]; simp only [List.map_cons, List.map_nil]; exact Lib.join_one _ _
theorem jn_snoc (sep : ByteArray) (y : ByteArray) (l : List ByteArray) (x : ByteArray) : jn sep ((y :: l) ++ [x]) = jn sep (y :: l) ++ sep ++ x := by
  apply ba_ext
  simp only [app_data, jn_data, List.cons_append, List.map_cons, List.map_append, List.map_nil, Lib.join_cons, Lib.joinTail, List.flatten_append, List.flatten_cons, List.flatten_nil, List.append_nil, List.append_assoc]
theorem jn_snoc' (sep : ByteArray) (l : List ByteArray) (x : ByteArray) (h : l ≠ []) : jn sep (l ++ [x]) = jn sep l ++ sep ++ x := by
  cases l with
  | nil => exact absurd rfl h
  | cons y l => exact jn_snoc sep y l x
theorem jn_cons (sep y x : ByteArray) (l : List ByteArray) : jn sep (y :: x :: l) = y ++ (sep ++ jn sep (x :: l)) := by
  apply ba_ext
  simp only [app_data, jn_data, List.map_cons, Lib.join_cons, Lib.joinTail, List.flatten_cons, List.append_assoc]
theorem jn_size (sep : ByteArray) (M : Nat) : ∀ l : List ByteArray, (∀ x ∈ l, x.size ≤ M) → (jn sep l).size ≤ (M + sep.size) * l.length
  | [], _ => by rw [jn_nil]; exact Nat.zero_le _
  | [x], h => by rw [jn_one]; have := h x (by simp); simp only [List.length_cons, List.length_nil]; omega
  | x :: y :: l, h => by
    rw [jn_cons, ByteArray.size_append, ByteArray.size_append]
    have h1 := h x (by simp)
    have h2 := jn_size sep M (y :: l) (fun z hz => h z (by simp at hz ⊢; right; exact hz))
    have e : (M + sep.size) * (x :: y :: l).length = (M + sep.size) * (y :: l).length + (M + sep.size) := by simp only [List.length_cons, Nat.mul_add, Nat.mul_one]
    rw [e]
    omega
theorem join_ev (sep : ByteArray) (l : List ByteArray) (h1 : (jn sep l).size ≤ 140737488355328) (h2 : l.length ≤ 140737488355328) : strings_Join.f l sep = some (jn sep l) := by
  have h1' : (Lib.join (l.map (·.data.toList)) sep.data.toList).length ≤ 140737488355328 := by rw [← jn_data, Array.length_toList]; exact h1
  simp only [strings_Join.f]
  exact if_pos ⟨h1', h2⟩
theorem take_one {α : Type _} {l : List α} {i : Nat} (h : i < l.length) : l.take (i + 1) = l.take i ++ [l[i]] := (List.take_append_getElem h).symm
abbrev iO := S23
def semi : ByteArray := ⟨#[59]⟩
def otx (a : iO) : ByteArray := optext a.f0 a.f1 a.f2
def okO (l : List iO) : Prop := ∀ a ∈ l, i64in a.f1 ∧ i64in a.f2
def ptext (l : List iO) : ByteArray := jn semi (l.map otx)
theorem ptext_size (l : List iO) (h : okO l) : (ptext l).size ≤ 48 * l.length := by
  have := jn_size semi 47 (l.map otx) (by intro x hx; obtain ⟨a, ha, rfl⟩ := List.mem_map.mp hx; exact optext_size (h a ha).1 (h a ha).2)
  rw [List.length_map] at this
  exact this
theorem rdO_at {l : List iO} {i : Nat} (h : i < l.length) : rd_T23 l (i : Int) = l[i] := getD_get (List.getElem?_eq_getElem h)
theorem ptext_take {l : List iO} {i : Nat} (h : i < l.length) : ptext (l.take (i + 1)) = if i > 0 then ptext (l.take i) ++ semi ++ otx l[i] else ptext (l.take i) ++ otx l[i] := by
  rw [take_one h]
  unfold ptext
  rw [List.map_append, List.map_cons, List.map_nil]
  split
  · rename_i hi
    refine jn_snoc' _ _ _ ?_
    intro e
    have e2 : (List.map otx (List.take i l)).length = 0 := by rw [e]; rfl
    rw [List.length_map, List.length_take] at e2
    omega
  · have : i = 0 := by omega
    subst this
    simp only [List.take_zero, List.map_nil, List.nil_append, jn_one, jn_nil]
    exact ByteArray.empty_append.symm
theorem okO_take {l : List iO} (h : okO l) (i : Nat) : okO (l.take i) := fun n hn => h n (List.mem_of_mem_take hn)
theorem spec_ProgText_ev (l : List iO) (hl : l.length ≤ 1048576) (ho : okO l) : Ev (fun k => spec_ProgText.f k l) (ptext l) := by
  simp only [spec_ProgText.f]
  refine (back (n := l.length) (Q := fun i => Ev (fun k => spec_ProgText.l0 k l (ptext (l.take i)) (i : Int)) (ptext l)) ?_ (fun i hi ih => ?_) 0 (Nat.zero_le _))
  · refine Ev.shift ?_
    simp only [spec_ProgText.l0, Int.lt_irrefl, if_false, List.take_length]
    exact Ev.now _
  · have h0 : (0 : Int) ≤ (i : Int) := by omega
    have h1 : (i : Int) < (l.length : Int) := by omega
    have hs := ptext_size (l.take i) (okO_take ho i)
    have hw := ho l[i] (List.getElem_mem hi)
    have hv : (otx l[i]).size ≤ 47 := optext_size hw.1 hw.2
    rw [List.length_take] at hs
    refine Ev.shift ?_
    have e := ptext_take hi
    by_cases h2 : i > 0
    · have h3 : (i : Int) > 0 := by omega
      have h4 : (ptext (l.take i)).size + 1 ≤ 9223372036854775807 := by omega
      have h5 : (ptext (l.take i) ++ (⟨#[59]⟩ : ByteArray)).size + (otx l[i]).size ≤ 9223372036854775807 := by rw [ByteArray.size_append]; show _ + 1 + _ ≤ _; omega
      rw [if_pos h2] at e
      rw [e] at ih
      simp only [spec_ProgText.l0, h1, h3, h4, h0, if_true, rdO_at hi]
      refine Ev.bind (spec_OpText_ev l[i].f0 l[i].f1 l[i].f2 hw.1 hw.2) ?_
      refine Ev.pos h5 ?_
      rw [succ64 hi (by omega)]
      exact ih
    · have h3 : ¬ (i : Int) > 0 := by omega
      have h5 : (ptext (l.take i)).size + (otx l[i]).size ≤ 9223372036854775807 := by omega
      rw [if_neg h2] at e
      rw [e] at ih
      simp only [spec_ProgText.l0, h1, h3, h0, if_true, if_false, rdO_at hi]
      refine Ev.bind (spec_OpText_ev l[i].f0 l[i].f1 l[i].f2 hw.1 hw.2) ?_
      refine Ev.pos h5 ?_
      rw [succ64 hi (by omega)]
      exact ih
theorem impl_ProgText_ev (l : List iO) (hl : l.length ≤ 1048576) (ho : okO l) : Ev (fun k => impl_ProgText.f k l) (ptext l) := by
  simp only [impl_ProgText.f]
  refine (back (n := l.length) (Q := fun i => Ev (fun k => impl_ProgText.l0 k ((l.take i).map otx) l (l.length : Int) (i : Int)) (ptext l)) ?_ (fun i hi ih => ?_) 0 (Nat.zero_le _))
  · refine Ev.shift ?_
    have hs := ptext_size l ho
    simp only [impl_ProgText.l0, Int.lt_irrefl, if_false, List.take_length]
    have e : strings_Join.f (l.map otx) ⟨#[59]⟩ = some (ptext l) := join_ev semi (l.map otx) (by show (ptext l).size ≤ _; omega) (by rw [List.length_map]; omega)
    rw [e, Option.bind_some]
    exact Ev.now _
  · have h0 : (0 : Int) ≤ (i : Int) := by omega
    have h1 : (i : Int) < (l.length : Int) := by omega
    have hw := ho l[i] (List.getElem_mem hi)
    refine Ev.shift ?_
    have h5 : ((l.take i).map otx).length < 8796093022208 := by rw [List.length_map, List.length_take]; omega
    rw [take_one hi, List.map_append, List.map_cons, List.map_nil] at ih
    simp only [impl_ProgText.l0, h1, h0, if_true, rdO_at hi]
    refine Ev.bind (impl_OpText_ev l[i].f0 l[i].f1 l[i].f2 hw.1 hw.2) ?_
    simp only [h5, if_true, succ64 hi (by omega)]
    exact ih
def comma : ByteArray := ⟨#[44]⟩
def i64s (l : List Int) : Prop := ∀ n ∈ l, -9223372036854775808 ≤ n ∧ n < 9223372036854775808
def ntext (l : List Int) : ByteArray := jn comma (l.map dstr)
theorem ntext_size (l : List Int) (h : i64s l) : (ntext l).size ≤ 21 * l.length := by
  have := jn_size comma 20 (l.map dstr) (by intro x hx; obtain ⟨a, ha, rfl⟩ := List.mem_map.mp hx; exact dstr_size (h a ha).1 (h a ha).2)
  rw [List.length_map] at this
  exact this
theorem rdI_nt {l : List Int} {i : Nat} (h : i < l.length) : rd l (i : Int) = l[i] := rd_get (List.getElem?_eq_getElem h)
theorem ntext_take {l : List Int} {i : Nat} (h : i < l.length) : ntext (l.take (i + 1)) = if i > 0 then ntext (l.take i) ++ comma ++ dstr l[i] else ntext (l.take i) ++ dstr l[i] := by
  rw [take_one h]
  unfold ntext
  rw [List.map_append, List.map_cons, List.map_nil]
  split
  · rename_i hi
    refine jn_snoc' _ _ _ ?_
    intro e
    have e2 : (List.map dstr (List.take i l)).length = 0 := by rw [e]; rfl
    rw [List.length_map, List.length_take] at e2
    omega
  · have : i = 0 := by omega
    subst this
    simp only [List.take_zero, List.map_nil, List.nil_append, jn_one, jn_nil]
    exact ByteArray.empty_append.symm
theorem i64s_take {l : List Int} (h : i64s l) (i : Nat) : i64s (l.take i) := fun n hn => h n (List.mem_of_mem_take hn)
theorem spec_NumsText_ev (l : List Int) (hl : l.length ≤ 1048576) (hi64 : i64s l) : Ev (fun k => spec_NumsText.f k l) (ntext l) := by
  simp only [spec_NumsText.f]
  refine (back (n := l.length) (Q := fun i => Ev (fun k => spec_NumsText.l0 k l (ntext (l.take i)) (i : Int)) (ntext l)) ?_ (fun i hi ih => ?_) 0 (Nat.zero_le _))
  · refine Ev.shift ?_
    simp only [spec_NumsText.l0, Int.lt_irrefl, if_false, List.take_length]
    exact Ev.now _
  · have h0 : (0 : Int) ≤ (i : Int) := by omega
    have h1 : (i : Int) < (l.length : Int) := by omega
    have hs := ntext_size (l.take i) (i64s_take hi64 i)
    have hw := hi64 l[i] (List.getElem_mem hi)
    have hv := dstr_size hw.1 hw.2
    rw [List.length_take] at hs
    refine Ev.shift ?_
    have e := ntext_take hi
    by_cases h2 : i > 0
    · have h3 : (i : Int) > 0 := by omega
      have h4 : (ntext (l.take i)).size + 1 ≤ 9223372036854775807 := by omega
      have h5 : (ntext (l.take i) ++ (⟨#[44]⟩ : ByteArray)).size + (dstr l[i]).size ≤ 9223372036854775807 := by rw [ByteArray.size_append]; show _ + 1 + _ ≤ _; omega
      rw [if_pos h2] at e
      rw [e] at ih
      simp only [spec_NumsText.l0, h1, h3, h4, h0, if_true, rdI_nt hi]
      refine Ev.bind (spec_Digits_ev l[i] hw.1 hw.2) ?_
      simp only [h5, if_true, succ64 hi (by omega)]
      exact ih
    · have h3 : ¬ (i : Int) > 0 := by omega
      have h5 : (ntext (l.take i)).size + (dstr l[i]).size ≤ 9223372036854775807 := by omega
      rw [if_neg h2] at e
      rw [e] at ih
      simp only [spec_NumsText.l0, h1, h3, h0, if_true, if_false, rdI_nt hi]
      refine Ev.bind (spec_Digits_ev l[i] hw.1 hw.2) ?_
      simp only [h5, if_true, succ64 hi (by omega)]
      exact ih
theorem impl_NumsText_ev (l : List Int) (hl : l.length ≤ 1048576) (hi64 : i64s l) : Ev (fun k => impl_NumsText.f k l) (ntext l) := by
  simp only [impl_NumsText.f]
  refine (back (n := l.length) (Q := fun i => Ev (fun k => impl_NumsText.l0 k ((l.take i).map dstr) l (l.length : Int) (i : Int)) (ntext l)) ?_ (fun i hi ih => ?_) 0 (Nat.zero_le _))
  · refine Ev.shift ?_
    have hs := ntext_size l hi64
    simp only [impl_NumsText.l0, Int.lt_irrefl, if_false, List.take_length]
    have e : strings_Join.f (l.map dstr) ⟨#[44]⟩ = some (ntext l) := join_ev comma (l.map dstr) (by show (ntext l).size ≤ _; omega) (by rw [List.length_map]; omega)
    rw [e, Option.bind_some]
    exact Ev.now _
  · have h0 : (0 : Int) ≤ (i : Int) := by omega
    have h1 : (i : Int) < (l.length : Int) := by omega
    have hw := hi64 l[i] (List.getElem_mem hi)
    refine Ev.shift ?_
    have h5 : ((l.take i).map dstr).length < 8796093022208 := by rw [List.length_map, List.length_take]; omega
    rw [take_one hi, List.map_append, List.map_cons, List.map_nil] at ih
    simp only [impl_NumsText.l0, h1, h0, if_true, rdI_nt hi]
    refine Ev.bind (impl_Digits_ev l[i] hw.1 hw.2) ?_
    simp only [h5, if_true, succ64 hi (by omega)]
    exact ih
theorem i64_of {n : Int} (h0 : 0 ≤ n) (h1 : n < 1000) : i64in n := ⟨by omega, by omega⟩
theorem l4Val_eq (a : Int) : spec_l4Val.f a = some (hasV a) := by
  unfold spec_l4Val.f hasV
  by_cases h1 : a = 1
  · simp [h1]
  · by_cases h2 : a = 2
    · simp [h2]
    · by_cases h5 : a = 5
      · simp [h5]
      · simp [h1, h2, h5]
theorem l4R_j1 {bs : List Int} {i : Int} (h : okC bs i) (c a b v : Int) (hb : i64in b) (hv : i64in v) : EvG (fun k => spec_l4DrawRight.j1 k bs i c a b v) (fun r => i64in r.2.1 ∧ i64in r.2.2.1 ∧ okC bs r.2.2.2.1) := by
  refine EvG.shift ?_
  simp only [spec_l4DrawRight.j1, l4Val_eq, Option.bind_some]
  exact EvG.ite (fun _ => EvG.bind (EvG.of_got (l1Below_got h c 4)) (fun q hq => EvG.now ⟨hb, w64_in _, hq.2.2.2⟩)) (fun _ => EvG.now ⟨hb, hv, h⟩)
theorem l4R_j0 {bs : List Int} {i : Int} (h : okC bs i) (c a b v : Int) (hb : i64in b) (hv : i64in v) : EvG (fun k => spec_l4DrawRight.j0 k bs i c a b v) (fun r => i64in r.2.1 ∧ i64in r.2.2.1 ∧ okC bs r.2.2.2.1) := by
  refine EvG.shift ?_
  simp only [spec_l4DrawRight.j0]
  exact EvG.ite (fun _ => EvG.bind (EvG.of_got (l1Below_got h c 3)) (fun q hq => l4R_j1 hq.2.2.2 _ a _ v (i64_of hq.1 (by have := hq.2.1 (by decide); omega)) hv)) (fun _ => l4R_j1 h c a b v hb hv)
theorem l4Right_evg {bs : List Int} {i : Int} (h : okC bs i) (c : Int) : EvG (fun k => spec_l4DrawRight.f k bs i c) (fun r => i64in r.2.1 ∧ i64in r.2.2.1 ∧ okC bs r.2.2.2.1) := by
  simp only [spec_l4DrawRight.f]
  refine EvG.bind (EvG.of_got (l1PickInt_got h c _ (by simp))) (fun r hr => ?_)
  have hkey : spec_l4Key.f r.1 = some (decide (1 ≤ r.1 ∧ r.1 ≤ 4)) := by simp only [spec_l4Key.f, specIn_eq, Option.bind_some]
  simp only [hkey, Option.bind_some]
  exact EvG.ite (fun _ => EvG.bind (EvG.of_got (l1Below_got hr.2 _ 4)) (fun q hq => l4R_j0 hq.2.2.2 _ _ _ 0 (i64_of hq.1 (by have := hq.2.1 (by decide); omega)) z_in)) (fun _ => l4R_j0 hr.2 _ _ 0 0 z_in z_in)
theorem l4Draw_evg {bs : List Int} {i : Int} (h : okC bs i) (c : Int) : EvG (fun k => spec_l4Draw.f k bs i c) (fun r => i64in r.2.1 ∧ i64in r.2.2.1 ∧ okC bs r.2.2.2.1) := by
  simp only [spec_l4Draw.f]
  refine EvG.bind (l4Right_evg h c) (fun r hr => EvG.bind (EvG.of_got (l1Below_got hr.2.2 _ 10)) (fun q hq => ?_))
  refine EvG.ite (fun _ => EvG.bind (EvG.of_got (l1Below_got hq.2.2.2 _ 13)) (fun p hp => EvG.now ⟨hr.1, hr.2.1, hp.2.2.2⟩)) (fun _ => ?_)
  refine EvG.ite (fun _ => EvG.bind (EvG.of_got (l1Below_got hq.2.2.2 _ 7)) (fun p hp => EvG.now ⟨w64_in _, hr.2.1, hp.2.2.2⟩)) (fun _ => ?_)
  exact EvG.ite (fun _ => EvG.bind (EvG.of_got (l1Below_got hq.2.2.2 _ 9)) (fun p hp => EvG.now ⟨hr.1, w64_in _, hp.2.2.2⟩)) (fun _ => EvG.now ⟨hr.1, hr.2.1, hq.2.2.2⟩)
section
variable {bs : List Int}
theorem new_evg (hb : bs.length ≤ 1048576) : EvG (fun k => spec_l1New.f k bs) (fun r => okC r.1 r.2.1) := (l1New_evg bs hb).mono (fun r hr => by rw [hr.1, hr.2]; exact okC_start hb)
theorem drawOpText_evg (hb : bs.length ≤ 1048576) : EvG (fun k => spec_DrawOpText.f k bs) (fun r => i64in r.2.1 ∧ i64in r.2.2) := by
  simp only [spec_DrawOpText.f]
  exact EvG.bind (new_evg hb) (fun r hr => EvG.bind (l4Draw_evg hr _) (fun q hq => EvG.now ⟨hq.1, hq.2.1⟩))
theorem drawOpOf_evg (hb : bs.length ≤ 1048576) : EvG (fun k => spec_DrawOpOf.f k bs) (fun t => t.size ≤ 47) := by
  simp only [spec_DrawOpOf.f]
  refine EvG.bind (new_evg hb) (fun r hr => EvG.bind (l4Draw_evg hr _) (fun q hq => EvG.bind (EvG.of_ev (spec_OpText_ev q.1 q.2.1 q.2.2.1 hq.1 hq.2.1) (P := fun t => t.size ≤ 47) (optext_size hq.1 hq.2.1)) (fun t ht => EvG.bind (EvG.of_got (l1Once_got hq.2.2 _ 4)) (fun p hp => ?_))))
  refine EvG.ite (fun _ => EvG.bind (EvG.of_got (l1Pick_got hp _ _ (by simp))) (fun u hu => EvG.now ?_)) (fun _ => EvG.now ht)
  have : ∀ x ∈ ([(⟨#[]⟩ : ByteArray), (⟨#[112, 117, 116, 32, 48]⟩ : ByteArray), (⟨#[112, 117, 116, 32, 48, 32, 48, 49]⟩ : ByteArray), (⟨#[103, 101, 116, 32, 48, 32, 49]⟩ : ByteArray), (⟨#[115, 99, 97, 110, 32]⟩ : ByteArray), (⟨#[118, 105, 97, 32, 55]⟩ : ByteArray), (⟨#[112, 117, 116, 32, 52, 32, 49]⟩ : ByteArray), (⟨#[110, 111, 110, 101]⟩ : ByteArray)] : List ByteArray), x.size ≤ 47 := by
    intro x hx
    simp only [List.mem_cons, List.mem_nil_iff, or_false] at hx
    rcases hx with rfl | rfl | rfl | rfl | rfl | rfl | rfl | rfl <;> decide +kernel
  exact this _ hu.1
theorem okO_snoc {l : List iO} {a b c : Int} (h : okO l) (hb : i64in b) (hc : i64in c) : okO (l ++ [(⟨a, b, c⟩ : iO)]) := by
  intro o ho
  rw [List.mem_append, List.mem_singleton] at ho
  rcases ho with ho | rfl
  · exact h o ho
  · exact ⟨hb, hc⟩
theorem drawThread_evg (hb : bs.length ≤ 1048576) : EvG (fun k => spec_DrawThreadNew.f k bs) (fun l => okO l ∧ l.length ≤ 5) := by
  simp only [spec_DrawThreadNew.f]
  refine EvG.bind (new_evg hb) (fun r hr => ?_)
  have key : ∀ (n x : Nat) (acc : List iO) (i c : Int), x + n = 5 → acc.length = x → okO acc → okC r.1 i → EvG (fun k => spec_DrawThreadNew.l0 k acc (x : Int) r.1 i c) (fun l => okO l ∧ l.length ≤ 5) := by
    intro n
    induction n with
    | zero =>
      intro x acc i c hx ha ho hc
      refine EvG.shift ?_
      simp only [spec_DrawThreadNew.l0]
      exact EvG.bind (EvG.of_got (l1Below_got hc c 5)) (fun q hq => EvG.neg (by have := hq.2.1 (by decide); omega) (EvG.now ⟨ho, by omega⟩))
    | succ n ih =>
      intro x acc i c hx ha ho hc
      refine EvG.shift ?_
      simp only [spec_DrawThreadNew.l0]
      have e : wrap64 ((x : Int) + 1) = ((x + 1 : Nat) : Int) := by rw [w64 (by omega) (by omega)]; omega
      rw [e]
      refine EvG.bind (EvG.of_got (l1Below_got hc c 5)) (fun q hq => EvG.ite (fun _ => ?_) (fun _ => EvG.now ⟨ho, by omega⟩))
      exact EvG.bind (l4Draw_evg hq.2.2.2 _) (fun p hp => EvG.pos (by omega) (ih (x + 1) _ _ _ (by omega) (by simp [ha]) (okO_snoc ho hp.1 hp.2.1) hp.2.2))
  exact key 5 0 [] _ _ rfl rfl (fun o ho => by cases ho) hr
theorem drawProgText_evg (hb : bs.length ≤ 1048576) : EvG (fun k => spec_DrawProgText.f k bs) (fun l => okO l ∧ l.length ≤ 5) := by
  simp only [spec_DrawProgText.f]
  exact EvG.bind (drawThread_evg hb) (fun r hr => EvG.now hr)
def okOS (l : List (List iO)) : Prop := ∀ x ∈ l, okO x ∧ x.length ≤ 4
theorem drawOps_evg {i : Int} (h : okC bs i) (c : Int) : EvG (fun k => spec_l9DrawOps.f k bs i c) (fun r => okOS r.1 ∧ 0 < r.1.length ∧ okC bs r.2.1) := by
  have inner : ∀ (n x : Nat) (out : List (List iO)) (y : Int) (acc : List iO) (i c : Int), x + n = 4 → acc.length = x → okO acc → okC bs i → out.length ≤ 100 →
      (∀ (l : List iO) (i c : Int), okO l → l.length ≤ 4 → okC bs i → EvG (fun k => spec_l9DrawOps.l0 k (out ++ [l]) (wrap64 (y + 1)) bs i c) (fun r => okOS r.1 ∧ 0 < r.1.length ∧ okC bs r.2.1)) →
      EvG (fun k => spec_l9DrawOps.l1 k out y acc (x : Int) bs i c) (fun r => okOS r.1 ∧ 0 < r.1.length ∧ okC bs r.2.1) := by
    intro n
    induction n with
    | zero =>
      intro x out y acc i c hx ha ho hc hl next
      refine EvG.shift ?_
      simp only [spec_l9DrawOps.l1]
      refine EvG.bind (EvG.of_got (l1Below_got hc c 4)) (fun q hq => EvG.neg ?_ (EvG.pos (by omega) (next _ _ _ ho (by omega) hq.2.2.2)))
      have := hq.2.1 (by decide)
      have := hq.1
      rw [w64 (by omega) (by omega)]
      omega
    | succ n ih =>
      intro x out y acc i c hx ha ho hc hl next
      refine EvG.shift ?_
      simp only [spec_l9DrawOps.l1]
      have e : wrap64 ((x : Int) + 1) = ((x + 1 : Nat) : Int) := by rw [w64 (by omega) (by omega)]; omega
      rw [e]
      refine EvG.bind (EvG.of_got (l1Below_got hc c 4)) (fun q hq => EvG.ite (fun _ => ?_) (fun _ => EvG.pos (by omega) (next _ _ _ ho (by omega) hq.2.2.2)))
      exact EvG.bind (l4Right_evg hq.2.2.2 _) (fun p hp => EvG.pos (by omega) (ih (x + 1) out y _ _ _ (by omega) (by simp [ha]) (okO_snoc ho hp.1 hp.2.1) hp.2.2 hl next))
  have outer : ∀ (n x : Nat) (out : List (List iO)) (i c : Int), x + n = 3 → out.length = x → okOS out → okC bs i → EvG (fun k => spec_l9DrawOps.l0 k out (x : Int) bs i c) (fun r => okOS r.1 ∧ 0 < r.1.length ∧ okC bs r.2.1) := by
    intro n
    induction n with
    | zero =>
      intro x out i c hx ha ho hc
      refine EvG.shift ?_
      simp only [spec_l9DrawOps.l0]
      refine EvG.bind (EvG.of_got (l1Below_got hc c 3)) (fun q hq => EvG.neg ?_ (EvG.now ⟨ho, by show 0 < out.length; omega, hq.2.2.2⟩))
      have := hq.2.1 (by decide)
      have := hq.1
      rw [w64 (by omega) (by omega)]
      omega
    | succ n ih =>
      intro x out i c hx ha ho hc
      refine EvG.shift ?_
      simp only [spec_l9DrawOps.l0]
      refine EvG.bind (EvG.of_got (l1Below_got hc c 3)) (fun q hq => EvG.ite (fun _ => ?_) (fun hn => EvG.now ⟨ho, ?_, hq.2.2.2⟩))
      · refine inner 4 0 out (x : Int) [] _ _ rfl rfl (fun o ho => by cases ho) hq.2.2.2 (by omega) (fun l i c hl h4 hc => ?_)
        have e : wrap64 ((x : Int) + 1) = ((x + 1 : Nat) : Int) := by rw [w64 (by omega) (by omega)]; omega
        rw [e]
        refine ih (x + 1) _ i c (by omega) (by simp [ha]) (fun y hy => ?_) hc
        rw [List.mem_append, List.mem_singleton] at hy
        rcases hy with hy | rfl
        · exact ho y hy
        · exact ⟨hl, h4⟩
      · show 0 < out.length
        have := hq.2.1 (by decide)
        have := hq.1
        rw [w64 (by omega) (by omega)] at hn
        omega
  simp only [spec_l9DrawOps.f]
  exact outer 3 0 [] i c rfl rfl (fun x hx => by cases hx) h
theorem drawProgOf_evg (hb : bs.length ≤ 1048576) : EvG (fun k => spec_DrawProgOf.f k bs) (fun t => t.size ≤ 1048576) := by
  simp only [spec_DrawProgOf.f]
  refine EvG.bind (new_evg hb) (fun r hr => EvG.bind (drawOps_evg hr _) (fun q hq => EvG.pos (by have := hq.2.1; omega) ?_))
  obtain ⟨hq1, hq2, hq3⟩ := hq
  obtain ⟨ql, qi, qc⟩ := q
  cases ql with
  | nil => exact absurd hq2 (by simp)
  | cons x xs =>
    have hx := hq1 x (List.mem_cons_self ..)
    have hs := ptext_size x hx.1
    have e0 : rd_L4 (x :: xs) 0 = x := rfl
    simp only [e0]
    refine EvG.bind (EvG.of_ev (spec_ProgText_ev x (by omega) hx.1) (P := fun t => t.size ≤ 192) (by omega)) (fun t ht => ?_)
    refine EvG.bind (EvG.of_got (l1Below_got hq3 _ 6)) (fun p hp => ?_)
    have s1 : (t ++ (⟨#[59]⟩ : ByteArray)).size = t.size + 1 := ByteArray.size_append ..
    have s2 : ((t ++ (⟨#[59]⟩ : ByteArray)) ++ t).size = t.size + 1 + t.size := by rw [ByteArray.size_append, s1]
    have s3 : (((t ++ (⟨#[59]⟩ : ByteArray)) ++ t) ++ (⟨#[59]⟩ : ByteArray)).size = t.size + 1 + t.size + 1 := by rw [ByteArray.size_append, s2]; rfl
    have s4 : ((((t ++ (⟨#[59]⟩ : ByteArray)) ++ t) ++ (⟨#[59]⟩ : ByteArray)) ++ t).size = t.size + 1 + t.size + 1 + t.size := by rw [ByteArray.size_append, s3]
    refine EvG.ite (fun _ => EvG.pos (by omega) (EvG.now (by rw [s1]; omega))) (fun _ => EvG.ite (fun _ => EvG.now (by decide)) (fun _ => EvG.ite (fun _ => ?_) (fun _ => EvG.now (by omega))))
    exact EvG.pos (by omega) (EvG.pos (by rw [s1]; omega) (EvG.pos (by rw [s2]; omega) (EvG.pos (by rw [s3]; omega) (EvG.now (by rw [s4]; omega)))))
end
theorem keyOf_evg (h : List Int) (hl : h.length ≤ 1048576) (s v : Int) : EvG (fun k => spec_KeyOf.f k h s v) (fun r => -1 ≤ r ∧ r ≤ 1048576) := by
  have key : ∀ i : Nat, i ≤ h.length → EvG (fun k => spec_KeyOf.l0 k v (i : Int) h s) (fun r => -1 ≤ r ∧ r ≤ 1048576) := by
    refine back ?_ fun i hi ih => ?_
    · refine EvG.shift ?_
      simp only [spec_KeyOf.l0, Int.lt_irrefl, if_false]
      exact EvG.now ⟨by decide, by decide⟩
    · have c0 : (0 : Int) ≤ (i : Int) := by omega
      have c1 : (i : Int) < (h.length : Int) := by omega
      refine EvG.shift ?_
      simp only [spec_KeyOf.l0, c0, c1, if_true, succ64 hi (by omega)]
      exact EvG.ite (fun _ => EvG.now ⟨by omega, by omega⟩) (fun _ => ih)
  simp only [spec_KeyOf.f]
  exact key 0 (Nat.zero_le _)
def small7 (l : List Int) : Prop := l.length = 4 ∧ ∀ x ∈ l, 0 ≤ x ∧ x ≤ 6
theorem l3R_evg {bs : List Int} {i : Int} (h : okC bs i) (c : Int) : EvG (fun k => spec_l3DrawRight.f k bs i c) (fun r => small7 r.1 ∧ okC bs r.2.2.1) := by
  have key : ∀ (n x : Nat) (hd : List Int) (s i c : Int), x + n = 4 → small7 hd → okC bs i → EvG (fun k => spec_l3DrawRight.l0 k (x : Int) bs i c hd s) (fun r => small7 r.1 ∧ okC bs r.2.2.1) := by
    intro n
    induction n with
    | zero =>
      intro x hd s i c hx hh hc
      refine EvG.shift ?_
      simp only [spec_l3DrawRight.l0]
      refine EvG.neg (by omega) ?_
      exact EvG.bind (EvG.of_got (l1PickInt_got hc c _ (by simp))) (fun r hr => EvG.now ⟨hh, hr.2⟩)
    | succ n ih =>
      intro x hd s i c hx hh hc
      have h4 := hh.1
      refine EvG.shift ?_
      simp only [spec_l3DrawRight.l0]
      refine EvG.pos (by omega) ?_
      have e : wrap64 ((x : Int) + 1) = ((x + 1 : Nat) : Int) := by rw [w64 (by omega) (by omega)]; omega
      rw [e]
      refine EvG.bind (EvG.of_got (l1Below_got hc c 7)) (fun r hr => EvG.bind (keyOf_evg hd (by omega) s r.1) (fun t _ => ?_))
      refine EvG.ite (fun _ => EvG.pos (by omega) (EvG.pos (by omega) ?_)) (fun _ => ?_)
      · refine ih (x + 1) _ s _ _ (by omega) ⟨by rw [List.length_set]; exact h4, fun y hy => ?_⟩ hr.2.2.2
        rcases List.mem_or_eq_of_mem_set hy with hy | rfl
        · exact hh.2 y hy
        · have := hr.2.1 (by decide)
          exact ⟨hr.1, by omega⟩
      · exact ih (x + 1) _ s _ _ (by omega) hh hr.2.2.2
  simp only [spec_l3DrawRight.f, spec_RowsNew.f, show (4 : Nat) ≤ 35184372088832 by decide, if_true, Option.bind_some]
  refine key 4 0 _ _ i c rfl ⟨List.length_replicate, fun x hx => ?_⟩ h
  have := List.eq_of_mem_replicate hx
  omega
theorem valOk_eq (v : Int) : spec_ValOk.f v = some (decide (1 ≤ v ∧ v ≤ 6)) := by simp only [spec_ValOk.f, specIn_eq, Option.bind_some]
theorem rowsOk_evg (h : List Int) (hl : h.length ≤ 1048576) (s : Int) : EvG (fun k => spec_RowsOk.f k h s) (fun b => b = true → h.length = 4) := by
  have key : ∀ i : Nat, i ≤ h.length → EvG (fun k => spec_RowsOk.l0 k (i : Int) h s) (fun b => b = true → h.length = 4) := by
    refine back ?_ fun i hi ih => ?_
    · refine EvG.shift ?_
      simp only [spec_RowsOk.l0, Int.lt_irrefl, if_false, specIn_eq, Option.bind_some]
      exact EvG.ite (fun h4 => EvG.now (fun _ => by omega)) (fun _ => EvG.now (fun e => by cases e))
    · have c0 : (0 : Int) ≤ (i : Int) := by omega
      have c1 : (i : Int) < (h.length : Int) := by omega
      refine EvG.shift ?_
      simp only [spec_RowsOk.l0, c0, c1, if_true, succ64 hi (by omega), valOk_eq, Option.bind_some]
      refine EvG.ite (fun _ => ih) (fun _ => EvG.ite (fun _ => ?_) (fun _ => EvG.now (fun e => by cases e)))
      exact EvG.bind (keyOf_evg h hl s _) (fun t _ => EvG.ite (fun _ => ih) (fun _ => EvG.now (fun e => by cases e)))
  simp only [spec_RowsOk.f]
  exact key 0 (Nat.zero_le _)
theorem bit_eq (b : Bool) : ∃ n : Int, spec_l1Bit.f b = some n := by
  unfold spec_l1Bit.f
  split
  · exact ⟨_, rfl⟩
  · exact ⟨_, rfl⟩
theorem class_eq (v : Int) : ∃ n : Int, spec_ClassOf.f v = some n := by
  simp only [spec_ClassOf.f, valOk_eq, Option.bind_some]
  by_cases h : decide (1 ≤ v ∧ v ≤ 6) = true
  · simp [h]
  · simp [h]
theorem howMany_evg (h : List Int) (hl : h.length ≤ 1048576) (s v : Int) : EvG (fun k => spec_HowMany.f k h s v) (fun r => i64in r) := by
  have key : ∀ i : Nat, i ≤ h.length → ∀ n, i64in n → EvG (fun k => spec_HowMany.l0 k v n (i : Int) h s) (fun r => i64in r) := by
    refine back ?_ fun i hi ih => ?_
    · intro n hn
      refine EvG.shift ?_
      simp only [spec_HowMany.l0, Int.lt_irrefl, if_false]
      exact EvG.now hn
    · intro n hn
      have c0 : (0 : Int) ≤ (i : Int) := by omega
      have c1 : (i : Int) < (h.length : Int) := by omega
      refine EvG.shift ?_
      obtain ⟨b1, e1⟩ := class_eq (rd h (i : Int))
      obtain ⟨b2, e2⟩ := bit_eq (b1 == v)
      obtain ⟨b3, e3⟩ := bit_eq false
      simp only [spec_HowMany.l0, c0, c1, if_true, succ64 hi (by omega), valOk_eq, Option.bind_some, e1, e2, e3]
      exact EvG.ite (fun _ => ih _ (w64_in _)) (fun _ => ih _ (w64_in _))
  simp only [spec_HowMany.f]
  exact key 0 (Nat.zero_le _) 0 z_in
def i64l (l : List Int) : Prop := i64s l ∧ l.length ≤ 4
theorem i64l_nil : i64l [] := ⟨fun n hn => (by cases hn), by decide⟩
theorem i64l_one {n : Int} (h : i64in n) : i64l [n] := ⟨fun m hm => by rw [List.mem_singleton] at hm; subst hm; exact h, by show 1 ≤ 4; decide⟩
theorem rd_small {h : List Int} (hs : small7 h) (x : Int) : i64in (rd h x) := by
  unfold rd
  rw [List.getD_eq_getElem?_getD]
  cases e : h[x.toNat]? with
  | none => exact z_in
  | some y => have := hs.2 y (List.mem_of_getElem? e); exact i64_of this.1 (by show y < 1000; omega)
theorem done_evg (h : List Int) (hs : small7 h) (s a b c : Int) (ok : opOk a b c = true) : EvG (fun k => spec_l4Done.f k h s a b c) (fun r => i64l r.1) := by
  have h4 := hs.1
  have hb := opOk_small ok
  have b0 : 0 ≤ b := hb.2.2.1
  have b1 : b < (h.length : Int) := by omega
  simp only [spec_l4Done.f, Option.bind_some, b0, b1, if_true]
  refine EvG.bind (keyOf_evg h (by omega) s c) (fun t ht => ?_)
  have it : i64in t := ⟨by omega, by omega⟩
  refine EvG.ite (fun _ => EvG.ite (fun _ => EvG.now i64l_nil) (fun _ => EvG.now i64l_nil)) (fun _ => ?_)
  refine EvG.ite (fun _ => EvG.ite (fun _ => EvG.now i64l_nil) (fun _ => EvG.ite (fun _ => EvG.now i64l_nil) (fun _ => EvG.now i64l_nil))) (fun _ => ?_)
  refine EvG.ite (fun _ => EvG.now i64l_nil) (fun _ => ?_)
  refine EvG.ite (fun _ => EvG.now (i64l_one (rd_small hs b))) (fun _ => ?_)
  refine EvG.ite (fun _ => EvG.now (i64l_one it)) (fun _ => ?_)
  refine EvG.ite (fun _ => EvG.bind (howMany_evg h (by omega) s b) (fun r hr => EvG.now (i64l_one hr))) (fun _ => ?_)
  refine EvG.ite (fun _ => EvG.pos (by simp; omega) (EvG.now ⟨fun n hn => ?_, by simp; omega⟩)) (fun _ => ?_)
  · rw [List.nil_append] at hn
    have := hs.2 n hn
    exact ⟨by omega, by omega⟩
  refine EvG.ite (fun _ => EvG.now i64l_nil) (fun _ => ?_)
  refine EvG.ite (fun _ => ?_) (fun _ => ?_)
  · simp only [specIn_eq, Option.bind_some]
    exact EvG.now i64l_nil
  · exact EvG.ite (fun _ => EvG.now (i64l_one it)) (fun _ => EvG.now (i64l_one it))
section
variable {bs : List Int}
theorem res_j1 {i : Int} (h : okC bs i) (c : Int) : EvG (fun k => spec_l4DrawRes.j1 k bs i c) (fun r => i64l r.2.1) := by
  refine EvG.shift ?_
  simp only [spec_l4DrawRes.j1]
  refine EvG.bind (EvG.of_got (l1Below_got h c 7)) (fun q hq => EvG.bind (EvG.of_got (l1Once_got hq.2.2.2 _ 4)) (fun p hp => ?_))
  exact EvG.ite (fun _ => EvG.bind (EvG.of_got (l1Below_got hp _ 4)) (fun u hu => EvG.now (i64l_one (i64_of hu.1 (by have := hu.2.1 (by decide); omega))))) (fun _ => EvG.now i64l_nil)
theorem res_j0 (f : Bool) {i : Int} (h : okC bs i) (cc : Int) (l : List Int) (hs : small7 l) (s a b c : Int) (hf : f = true → opOk a b c = true) : EvG (fun k => spec_l4DrawRes.j0 k f bs i cc l s a b c) (fun r => i64l r.2.1) := by
  refine EvG.shift ?_
  simp only [spec_l4DrawRes.j0]
  refine EvG.ite (fun e => EvG.bind (done_evg l hs s a b c (hf e)) (fun r hr => ?_)) (fun _ => res_j1 h cc)
  exact EvG.ite (fun _ => EvG.now hr) (fun _ => res_j1 h cc)
theorem drawRes_evg {i : Int} (h : okC bs i) (cc : Int) (l : List Int) (hs : small7 l) (s a b c : Int) : EvG (fun k => spec_l4DrawRes.f k bs i cc l s a b c) (fun r => i64l r.2.1) := by
  have h4 := hs.1
  simp only [spec_l4DrawRes.f]
  refine EvG.bind (rowsOk_evg l (by omega) s) (fun t _ => EvG.ite (fun _ => EvG.bind (EvG.of_ev (spec_OpOk_ev a b c) (P := fun t => t = opOk a b c) rfl) (fun t ht => ?_)) (fun _ => res_j0 _ h cc l hs s a b c (fun e => by cases e)))
  refine EvG.ite (fun e => EvG.bind (EvG.of_got (l1Once_got h cc 3)) (fun q hq => res_j0 _ hq _ l hs s a b c (fun _ => by rw [← ht]; exact e))) (fun _ => res_j0 _ h cc l hs s a b c (fun e => by cases e))
theorem drawResText_evg (hb : bs.length ≤ 1048576) : EvG (fun k => spec_DrawResText.f k bs) (fun r => i64l r.2) := by
  simp only [spec_DrawResText.f]
  refine EvG.bind (new_evg hb) (fun r hr => EvG.bind (l3R_evg hr _) (fun q hq => EvG.bind (l4Right_evg hq.2 _) (fun p hp => EvG.bind (drawRes_evg hp.2.2 _ _ hq.1 _ _ _ _) (fun u hu => EvG.now hu))))
end
end Go.Proofs.YtafcfhgdblefgaaDoor.P
namespace Go.Proofs.YtafcfhgdblefgaaDoor.P
open Go.Proofs.YtafcfhgdblefgaaDoorZ Go.RowKit Go.Proofs.YtafcfhgdblefgaaDoorW.PrintWords Go.Proofs.YtafcfhgdblefgaaDoorW.PrintLast Go.Proofs.YtafcfhgdblefgaaDoorW.PrintMore
attribute [local go_sem] max2_int min2_int max_two min_two max_three min_three max_four min_four   -- for this text's walks alone


end Go.Proofs.YtafcfhgdblefgaaDoor.P
namespace Go.Proofs.YtafcfhgdblefgaaDoor.P
open Go.RowKit Go.Proofs.YtafcfhgdblefgaaDoorW.PrintWords Go.Proofs.YtafcfhgdblefgaaDoorW.PrintLast Go.Proofs.YtafcfhgdblefgaaDoorZ
noncomputable def opr (t : ByteArray) : oR := if h : t.size ≤ 1048576 then Classical.choose (opOf_both t h) else (0, 0, 0, false)
theorem opr_spec (t : ByteArray) (h : t.size ≤ 1048576) : Ev (fun k => impl_OpOf.f k t) (opr t) ∧ Ev (fun k => spec_OpOf.f k t) (opr t) ∧ sound t (opr t) := by
  unfold opr
  rw [dif_pos h]
  exact Classical.choose_spec (opOf_both t h)
abbrev pO := S23
noncomputable def opS (t : ByteArray) : pO := ⟨(opr t).1, (opr t).2.1, (opr t).2.2.1⟩
noncomputable def okP (t : ByteArray) : Bool := (opr t).2.2.2
noncomputable def progR (ps : List ByteArray) : List pO × Bool := if (ps.all okP) = true ∧ ps.length ≤ 8 then (ps.map opS, true) else ([], false)
theorem progR_no {ps : List ByteArray} (h : ¬ ((ps.all okP) = true ∧ ps.length ≤ 8)) : progR ps = ([], false) := if_neg h
theorem progR_yes {ps : List ByteArray} (h : ∀ t ∈ ps, okP t = true) (h8 : ps.length ≤ 8) : progR ps = (ps.map opS, true) := if_pos ⟨List.all_eq_true.mpr h, h8⟩
theorem rdOf_at {ps : List ByteArray} {i : Nat} (h : i < ps.length) : rdOf ByteArray.empty ps (i : Int) = ps[i] := by
  unfold rdOf
  rw [Int.toNat_natCast, List.getD_eq_getElem?_getD, List.getElem?_eq_getElem h]
  rfl
theorem map_take_one {ps : List ByteArray} {i : Nat} (h : i < ps.length) : (ps.take (i + 1)).map opS = (ps.take i).map opS ++ [opS ps[i]] := by
  rw [List.take_succ_eq_append_getElem h, List.map_append, List.map_cons, List.map_nil]
theorem all_take_one {ps : List ByteArray} {i : Nat} (h : i < ps.length) (ha : ∀ t ∈ ps.take i, okP t = true) (hb : okP ps[i] = true) : ∀ t ∈ ps.take (i + 1), okP t = true := by
  intro t ht
  rw [List.take_succ_eq_append_getElem h, List.mem_append, List.mem_singleton] at ht
  rcases ht with ht | rfl
  · exact ha t ht
  · exact hb
theorem implProg_loop (ps : List ByteArray) (hs : ∀ t ∈ ps, t.size ≤ 1048576) (hl : ps.length ≤ 9223372036854775807) : ∀ i, i ≤ ps.length → (∀ t ∈ ps.take i, okP t = true) → i ≤ 8 → Ev (fun k => impl_ProgOf.l0 k ((ps.take i).map opS) ps (ps.length : Int) (i : Int)) (progR ps) := by
  refine back ?_ (fun i hi ih => ?_)
  · intro hok h8
    rw [List.take_length] at hok ⊢
    refine Ev.shift ?_
    simp only [impl_ProgOf.l0, Int.lt_irrefl, if_false]
    exact Ev.val (progR_yes hok h8).symm
  · intro hok h8
    have d0 : (0 : Int) ≤ (i : Int) := by omega
    have d1 : (i : Int) < (ps.length : Int) := by omega
    obtain ⟨e1, _, _⟩ := opr_spec ps[i] (hs _ (List.getElem_mem hi))
    refine Ev.shift ?_
    simp only [impl_ProgOf.l0, d0, d1, if_true, rdOf_at hi]
    refine Ev.bind e1 ?_
    by_cases hk : okP ps[i] = true
    · refine Ev.pos hk ?_
      by_cases h9 : i = 8
      · refine Ev.pos (by rw [List.length_map, List.length_take]; omega) (Ev.val ?_)
        exact (progR_no (fun h => by have := h.2; omega)).symm
      · refine Ev.neg (by rw [List.length_map, List.length_take]; omega) (Ev.pos (by rw [List.length_map, List.length_take]; omega) ?_)
        rw [succ64 hi hl]
        have := ih (all_take_one hi hok hk) (by omega)
        rw [map_take_one hi] at this
        exact this
    · refine Ev.neg hk (Ev.val ?_)
      exact (progR_no (fun h => hk (List.all_eq_true.mp h.1 _ (List.getElem_mem hi)))).symm
theorem specProg_loop (ps : List ByteArray) (hs : ∀ t ∈ ps, t.size ≤ 1048576) (hl : ps.length ≤ 9223372036854775807) : ∀ i, i ≤ ps.length → (∀ t ∈ ps.take i, okP t = true) → (0 < i → ps.length ≤ 8) → Ev (fun k => spec_ProgOf.l0 k ((ps.take i).map opS) ps (i : Int)) (progR ps) := by
  refine back ?_ (fun i hi ih => ?_)
  · intro hok h8
    rw [List.take_length] at hok ⊢
    refine Ev.shift ?_
    simp only [spec_ProgOf.l0, Int.lt_irrefl, if_false]
    exact Ev.val (progR_yes hok (by by_cases h : 0 < ps.length; exact h8 h; omega)).symm
  · intro hok h8
    have d0 : (0 : Int) ≤ (i : Int) := by omega
    have d1 : (i : Int) < (ps.length : Int) := by omega
    obtain ⟨_, e1, _⟩ := opr_spec ps[i] (hs _ (List.getElem_mem hi))
    refine Ev.shift ?_
    simp only [spec_ProgOf.l0, d0, d1, if_true, rdOf_at hi]
    refine Ev.bind e1 ?_
    by_cases hk : okP ps[i] = true
    · refine Ev.pos hk ?_
      by_cases h9 : ps.length ≤ 8
      · refine Ev.neg (by omega) (Ev.pos (by rw [List.length_map, List.length_take]; omega) ?_)
        rw [succ64 hi hl]
        have := ih (all_take_one hi hok hk) (fun _ => h9)
        rw [map_take_one hi] at this
        exact this
      · refine Ev.pos (by omega) (Ev.val ?_)
        exact (progR_no (fun h => h9 h.2)).symm
    · refine Ev.neg hk (Ev.val ?_)
      exact (progR_no (fun h => hk (List.all_eq_true.mp h.1 _ (List.getElem_mem hi)))).symm
def semi2 : ByteArray := ⟨#[59]⟩
def opx (a : pO) : ByteArray := optext a.f0 a.f1 a.f2
def told (s : ByteArray) (r : List pO × Bool) : Prop := r.1.length ≤ 8 ∧ (r.2 = true → jn semi2 (r.1.map opx) = s ∧ ∀ o ∈ r.1, i64in o.f1 ∧ i64in o.f2) ∧ (r.2 = false → r.1 = [])
theorem progOf_both (s : ByteArray) (hs : s.size ≤ 1048576) : ∃ r, Ev (fun k => impl_ProgOf.f k s) r ∧ Ev (fun k => spec_ProgOf.f k s) r ∧ told s r := by
  by_cases h0 : s.toList = []
  · refine ⟨([], true), ?_, ?_, by decide, fun _ => ⟨?_, fun o ho => (by cases ho)⟩, fun h => (by cases h)⟩
    · simp only [impl_ProgOf.f, Option.bind_some, h0, if_true]; exact Ev.now _
    · simp only [spec_ProgOf.f, Option.bind_some, h0, if_true]; exact Ev.now _
    · have : s = ⟨#[]⟩ := ba_of_toList (by rw [h0, ByteArray.toList_eq])
      rw [this]; rfl
  · have hsz : ∀ t ∈ parts 59 s, t.size ≤ 1048576 := fun t ht => by have := parts_size ht; omega
    have hl : (parts 59 s).length ≤ 9223372036854775807 := by
      have h := Lib.splitB_all (⟨#[59]⟩ : ByteArray) (Nat.le_refl 1) 0 _ s rfl
      have h2 := Lib.countB_le (⟨#[59]⟩ : ByteArray) (Nat.le_refl 1) s.size s (Nat.le_refl _)
      rw [split_parts] at h
      omega
    refine ⟨progR (parts 59 s), ?_, ?_, ?_, ?_, ?_⟩
    · simp only [impl_ProgOf.f, Option.bind_some, h0, if_false, impl_Split_eq s 59 59 rfl hs]
      exact implProg_loop (parts 59 s) hsz hl 0 (Nat.zero_le _) (fun t ht => by cases ht) (by decide)
    · simp only [spec_ProgOf.f, Option.bind_some, h0, if_false]
      refine Ev.bind (spec_Split_ev s 59 hs) ?_
      exact specProg_loop (parts 59 s) hsz hl 0 (Nat.zero_le _) (fun t ht => by cases ht) (fun h => by omega)
    · unfold progR
      split
      · rename_i h
        simp only [List.length_map]
        exact h.2
      · exact Nat.zero_le _
    · unfold progR
      split
      · rename_i h
        intro _
        have hok := List.all_eq_true.mp h.1
        refine ⟨?_, fun o ho => ?_⟩
        · have e : (List.map opS (parts 59 s)).map opx = parts 59 s := by
            rw [List.map_map]
            have : ∀ t ∈ parts 59 s, (opx ∘ opS) t = t := by
              intro t ht
              exact (((opr_spec t (hsz t ht)).2.2).1 (hok t ht)).2.1
            rw [List.map_congr_left this, List.map_id']
          show jn semi2 ((List.map opS (parts 59 s)).map opx) = s
          rw [e]
          apply ba_ext
          rw [jn_data]
          exact parts_join 59 s
        · obtain ⟨t, ht, rfl⟩ := List.mem_map.mp ho
          exact (((opr_spec t (hsz t ht)).2.2).1 (hok t ht)).2.2
      · intro h; cases h
    · unfold progR
      split
      · intro h; cases h
      · intro _; rfl
def resN : List ByteArray := [⟨#[100, 111, 110, 101]⟩, ⟨#[116, 104, 101, 114, 101]⟩, ⟨#[116, 97, 107, 101, 110]⟩, ⟨#[110, 111, 110, 101]⟩, ⟨#[110, 111, 116]⟩, ⟨#[119, 104, 97, 116]⟩]
def resN5 : List ByteArray := [⟨#[100, 111, 110, 101]⟩, ⟨#[116, 104, 101, 114, 101]⟩, ⟨#[116, 97, 107, 101, 110]⟩, ⟨#[110, 111, 110, 101]⟩, ⟨#[110, 111, 116]⟩]
def rname (a : Int) : ByteArray := if 0 ≤ a ∧ a ≤ 4 then rdOf ByteArray.empty resN5 a else ⟨#[119, 104, 97, 116]⟩
def restext (a : Int) (l : List Int) : ByteArray := if l.length = 0 then rname a else rname a ++ ((⟨#[32]⟩ : ByteArray) ++ ntext l)
theorem resN_cases {a : Int} (h0 : 0 ≤ a) (h1 : a ≤ 4) : rdOf ByteArray.empty resN a = rdOf ByteArray.empty resN5 a ∧ (rdOf ByteArray.empty resN5 a).size ≤ 5 := by
  have : a = 0 ∨ a = 1 ∨ a = 2 ∨ a = 3 ∨ a = 4 := by omega
  rcases this with rfl | rfl | rfl | rfl | rfl <;> decide +kernel
theorem rname_size (a : Int) : (rname a).size ≤ 5 := by
  unfold rname
  split
  · rename_i h; exact (resN_cases h.1 h.2).2
  · show 4 ≤ 5; decide
theorem len6 : (([(⟨#[100, 111, 110, 101]⟩ : ByteArray), (⟨#[116, 104, 101, 114, 101]⟩ : ByteArray), (⟨#[116, 97, 107, 101, 110]⟩ : ByteArray), (⟨#[110, 111, 110, 101]⟩ : ByteArray), (⟨#[110, 111, 116]⟩ : ByteArray), (⟨#[119, 104, 97, 116]⟩ : ByteArray)].length : Nat) : Int) = 6 := rfl
theorem len5 : (([(⟨#[100, 111, 110, 101]⟩ : ByteArray), (⟨#[116, 104, 101, 114, 101]⟩ : ByteArray), (⟨#[116, 97, 107, 101, 110]⟩ : ByteArray), (⟨#[110, 111, 110, 101]⟩ : ByteArray), (⟨#[110, 111, 116]⟩ : ByteArray)].length : Nat) : Int) = 5 := rfl
theorem rd6 {a : Int} (h0 : 0 ≤ a) (h1 : a ≤ 5) : rdOf ByteArray.empty [(⟨#[100, 111, 110, 101]⟩ : ByteArray), (⟨#[116, 104, 101, 114, 101]⟩ : ByteArray), (⟨#[116, 97, 107, 101, 110]⟩ : ByteArray), (⟨#[110, 111, 110, 101]⟩ : ByteArray), (⟨#[110, 111, 116]⟩ : ByteArray), (⟨#[119, 104, 97, 116]⟩ : ByteArray)] a = rname a := by
  by_cases h : a ≤ 4
  · rw [show rname a = rdOf ByteArray.empty resN5 a from if_pos ⟨h0, h⟩]
    exact (resN_cases h0 h).1
  · have : a = 5 := by omega
    subst this
    rfl
theorem rd5 {a : Int} (h0 : 0 ≤ a) (h1 : a ≤ 4) : rdOf ByteArray.empty [(⟨#[100, 111, 110, 101]⟩ : ByteArray), (⟨#[116, 104, 101, 114, 101]⟩ : ByteArray), (⟨#[116, 97, 107, 101, 110]⟩ : ByteArray), (⟨#[110, 111, 110, 101]⟩ : ByteArray), (⟨#[110, 111, 116]⟩ : ByteArray)] a = rname a := (show rname a = rdOf ByteArray.empty resN5 a from if_pos ⟨h0, h1⟩).symm
theorem spec_ResText_ev (a : Int) (l : List Int) (hl : l.length ≤ 1048576) (hi64 : i64s l) : Ev (fun k => spec_ResText.f k a l) (restext a l) := by
  have hs := ntext_size l hi64
  have hr := rname_size a
  have hw : wrap64 ((6 : Int) - 1) = 5 := by unfold wrap64; omega
  have c2 : (rname a).size + 1 ≤ 9223372036854775807 := by omega
  have c3 : (rname a ++ (⟨#[32]⟩ : ByteArray)).size + (ntext l).size ≤ 9223372036854775807 := by rw [ByteArray.size_append]; show _ + 1 + _ ≤ _; omega
  have ha : rname a ++ (⟨#[32]⟩ : ByteArray) ++ ntext l = rname a ++ ((⟨#[32]⟩ : ByteArray) ++ ntext l) := ByteArray.append_assoc
  simp only [spec_ResText.f, spec_l1In.f, Option.bind_some, len6, hw, restext]
  by_cases hin : 0 ≤ a ∧ a ≤ 5
  · have h0 : a ≥ 0 := hin.1
    have h0' : 0 ≤ a := hin.1
    have h1 : a ≤ 5 := hin.2
    have h2 : a < 6 := by omega
    simp only [h0, h0', h1, h2, if_true, decide_true, Option.bind_some, rd6 h0' h1]
    by_cases hz : l.length = 0
    · have c : ¬ ((l.length : Int) > 0) := by omega
      simp only [c, hz, if_true, if_false, Int.lt_irrefl, gt_iff_lt, Int.natCast_zero]
      exact Ev.now _
    · have c : ((l.length : Int) > 0) := by omega
      simp only [c, c2, hz, if_true, if_false]
      refine Ev.bind (spec_NumsText_ev l hl hi64) ?_
      simp only [c3, if_true, ha]
      exact Ev.now _
  · have hn : rname a = rname 5 := by
      rw [show rname a = _ from if_neg (by omega)]; rfl
    rw [hn] at c2 c3 ha ⊢
    have hd : (if a ≥ 0 then some (decide (a ≤ 5)) else some false) = some false := by
      by_cases h0 : a ≥ 0
      · rw [if_pos h0]; simp; omega
      · rw [if_neg h0]
    rw [hd]
    simp only [Option.bind_some, Bool.false_eq_true, if_false, show (0 : Int) ≤ 5 by decide, show (5 : Int) < 6 by decide, if_true, rd6 (show (0 : Int) ≤ 5 by decide) (show (5 : Int) ≤ 5 by decide)]
    by_cases hz : l.length = 0
    · have c : ¬ ((l.length : Int) > 0) := by omega
      simp only [c, hz, if_true, if_false, Int.lt_irrefl, gt_iff_lt, Int.natCast_zero]
      exact Ev.now _
    · have c : ((l.length : Int) > 0) := by omega
      simp only [c, c2, hz, if_true, if_false]
      refine Ev.bind (spec_NumsText_ev l hl hi64) ?_
      simp only [c3, if_true, ha]
      exact Ev.now _
theorem impl_ResText_ev (a : Int) (l : List Int) (hl : l.length ≤ 1048576) (hi64 : i64s l) : Ev (fun k => impl_ResText.f k a l) (restext a l) := by
  have hs := ntext_size l hi64
  have hr := rname_size a
  have c2 : 1 + (ntext l).size ≤ 9223372036854775807 := by omega
  have c3 : (rname a).size + ((⟨#[32]⟩ : ByteArray) ++ ntext l).size ≤ 9223372036854775807 := by rw [ByteArray.size_append]; show _ + (1 + _) ≤ _; omega
  simp only [impl_ResText.f, impl_from.f, Option.bind_some, len5, restext]
  by_cases hin : 0 ≤ a ∧ a ≤ 4
  · have h0 : a ≥ 0 := hin.1
    have h0' : 0 ≤ a := hin.1
    have h1 : a ≤ 4 := hin.2
    have h2 : a < 5 := by omega
    simp only [h0, h0', h1, h2, if_true, decide_true, Option.bind_some, rd5 h0' h1]
    by_cases hz : l.length = 0
    · have c : ¬ ((l.length : Int) > 0) := by omega
      simp only [c, hz, if_true, if_false, Int.lt_irrefl, gt_iff_lt, Int.natCast_zero]
      exact Ev.now _
    · have c : ((l.length : Int) > 0) := by omega
      simp only [c, c2, hz, if_true, if_false]
      refine Ev.bind (impl_NumsText_ev l hl hi64) ?_
      simp only [c2, c3, if_true]
      exact Ev.now _
  · have hn : rname a = (⟨#[119, 104, 97, 116]⟩ : ByteArray) := if_neg hin
    have c4 : 4 + ((⟨#[32]⟩ : ByteArray) ++ ntext l).size ≤ 9223372036854775807 := by rw [ByteArray.size_append]; show 4 + (1 + _) ≤ _; omega
    have hd : (if a ≥ 0 then some (decide (a ≤ 4)) else some false) = some false := by
      by_cases h0 : a ≥ 0
      · rw [if_pos h0]; simp; omega
      · rw [if_neg h0]
    rw [hd, hn]
    simp only [Option.bind_some, Bool.false_eq_true, if_false]
    by_cases hz : l.length = 0
    · have c : ¬ ((l.length : Int) > 0) := by omega
      simp only [c, hz, if_true, if_false, Int.lt_irrefl, gt_iff_lt, Int.natCast_zero]
      exact Ev.now _
    · have c : ((l.length : Int) > 0) := by omega
      simp only [c, hz, if_true, if_false]
      refine Ev.bind (impl_NumsText_ev l hl hi64) ?_
      simp only [c2, c4, if_true]
      exact Ev.now _
theorem none_text {a b c : Int} (h : ¬ opOk a b c = true) : ((optext a b c).toList == ([110, 111, 110, 101] : List UInt8)) = true := by
  unfold optext
  rw [if_neg h, ByteArray.toList_eq]
  rfl
theorem texts_j2 (a b c : Int) (hb : i64in b) (hc : i64in c) : Ev (fun k => laws_FnTexts.j2 k (optext a b c) false a b c) true := by
  refine Ev.shift ?_
  simp only [laws_FnTexts.j2, Bool.false_eq_true, if_false]
  refine Ev.bind (impl_OpOk_ev a b c) ?_
  by_cases h : opOk a b c = true
  · refine Ev.pos h (Ev.bind (of_text h).1 (Ev.pos rfl (Ev.val ?_)))
    simp
  · exact Ev.neg h (Ev.val (none_text h))
theorem texts_end (s5 : ByteArray) (ok : Bool) (u : ByteArray) (is : Bool) (A : List pO) (a b c p q r : Int) (hb : i64in b) (hc : i64in c) (hp : ok = true → opOk p q r = true ∧ optext p q r = s5 ∧ i64in q ∧ i64in r) (hA : okO A) (hA2 : A.length ≤ 8) (hu : is = true → ptext A = u)
    (B : List pO) (hB : B = A) : Ev (fun k => laws_FnTexts.j0 k (optext a b c) s5 ok u A is B false a b c p q r) true := by
  subst hB
  refine Ev.shift ?_
  simp only [laws_FnTexts.j0, Bool.false_eq_true, if_false]
  have key : ∀ i : Nat, i ≤ B.length → Ev (fun k => laws_FnTexts.l0 k (optext a b c) s5 ok u B is B (i : Int) a b c p q r) true := by
    refine back ?_ fun i hi ih => ?_
    · refine Ev.shift ?_
      simp only [laws_FnTexts.l0, Int.lt_irrefl, if_false]
      have tail : ∀ g : Bool, (g = true → is = true) → Ev (fun k => if g = true then ((impl_ProgText.f k B).bind fun t144 => (laws_FnTexts.j2 k (optext a b c) (t144.toList != u.toList) a b c)) else (laws_FnTexts.j2 k (optext a b c) false a b c)) true := by
        intro g hg
        by_cases e : g = true
        · refine Ev.pos e (Ev.bind (impl_ProgText_ev B (by omega) hA) ?_)
          rw [hu (hg e)]
          simp only [bne_self_eq_false]
          exact texts_j2 a b c hb hc
        · exact Ev.neg e (texts_j2 a b c hb hc)
      by_cases e : ok = true
      · obtain ⟨h1, h2, h3, h4⟩ := hp e
        refine Ev.pos e (Ev.bind (impl_OpText_ev p q r h3 h4) (Ev.pos (by rw [h2]) (Ev.bind (impl_OpOk_ev p q r) (Ev.pos h1 (tail is (fun h => h))))))
      · exact Ev.neg e (tail is (fun h => h))
    · have c0 : (0 : Int) ≤ (i : Int) := by omega
      have c1 : (i : Int) < (B.length : Int) := by omega
      refine Ev.shift ?_
      simp only [laws_FnTexts.l0, c0, c1, if_true, succ64 hi (by omega), beq_self_eq_true, Bool.not_true, Bool.or_self, Bool.false_eq_true, if_false]
      exact ih
  exact key 0 (Nat.zero_le _)
theorem pureFnTexts : PureFnTexts := by
  intro l hl
  refine Ev.rounds ?_
  simp only [laws_FnTexts.f, laws_big.f, Option.bind_some]
  by_cases hbig : (l.length : Int) > 1048576
  · exact Ev.pos (by simpa using hbig) (Ev.now _)
  refine Ev.neg (by simpa using hbig) ?_
  have hb : l.length ≤ 1048576 := by omega
  obtain ⟨o, ho, hob, hoc⟩ := drawOpText_evg hb
  obtain ⟨t, ht, hts⟩ := drawOpOf_evg hb
  obtain ⟨pr, hpr, hpo, hpl⟩ := drawProgText_evg hb
  obtain ⟨u, hu, hus⟩ := drawProgOf_evg hb
  obtain ⟨rs, hrs, hri, hrl⟩ := drawResText_evg hb
  obtain ⟨r, hr1, hr2, hr3⟩ := opOf_both t (by omega)
  obtain ⟨g, hg1, hg2, hg3, hg4, hg5⟩ := progOf_both u hus
  refine Ev.bind ho (Ev.bind (impl_OpText_ev o.1 o.2.1 o.2.2 hob hoc) (Ev.bind ht (Ev.bind hr1 (Ev.bind hr2 (Ev.bind hpr (Ev.bind hu (Ev.bind hg1 (Ev.bind hg2 (Ev.bind hrs (Ev.bind (spec_OpText_ev o.1 o.2.1 o.2.2 hob hoc) ?_))))))))))
  refine Ev.pos rfl (Ev.neg (by simp) (Ev.neg (by simp) ?_))
  refine Ev.bind (impl_ProgText_ev pr (by omega) hpo) (Ev.bind (spec_ProgText_ev pr (by omega) hpo) (Ev.pos rfl (Ev.neg (by simp) (Ev.pos rfl ?_))))
  refine Ev.bind (impl_ResText_ev rs.1 rs.2 (by omega) hri) (Ev.bind (spec_ResText_ev rs.1 rs.2 (by omega) hri) ?_)
  simp only [bne_self_eq_false]
  have hA : okO g.1 := by
    by_cases hg : g.2 = true
    · exact (hg4 hg).2
    · rw [hg5 (by simpa using hg)]
      intro o ho
      cases ho
  exact texts_end t r.2.2.2 u g.2 g.1 o.1 o.2.1 o.2.2 r.1 r.2.1 r.2.2.1 hob hoc hr3.1 hA hg3 (fun hg => (hg4 hg).1) g.1 rfl
end Go.Proofs.YtafcfhgdblefgaaDoor.P
namespace Go.Proofs.YtafcfhgdblefgaaDoor.fnTexts
open Go.ChangeShapes Go.WideShapes Go.ChangeAt Go.RowKit Go.Proofs.YtafcfhgdblefgaaDoorW.PrintWords Go.Proofs.YtafcfhgdblefgaaDoorW.PrintLast Go.Proofs.YtafcfhgdblefgaaDoorZ Go.Proofs.YtafcfhgdblefgaaDoor.P
open Go.ChangeMaps (open_string shut_string)
theorem own : ownKnob Tryd.prog.godebug = none := by kernel_rfl
theorem laidOut : laidOutB Tryd.prog = true := by kernel_rfl
set_option maxRecDepth 100000 in
theorem contract (H : Type) (enc : TypeId × Value → H) (W : World) (base : Nat) (args : Array Value) (ds gs : List (DataW H)) (before : List MemPlace)
    (hval0 : ∀ (j : Nat) t v, Tryd.f5.params[j]? = some t → args[j]? = some v → Value.okWide Tryd.prog W .any base t v)
    (hW : DataW.Whole enc Tryd.prog Tryd.f5.params.toList Rows.fnTextsSpec.vars false W args.toList ds gs before) :
    Calls Tryd.prog 5 args W fun e W' => ∃ v, e = .returned v ∧ Rows.fnTextsSpec.post enc Tryd.prog Tryd.f5 false true false false W args v W' := by
  have hval : ∀ (j : Nat) t v, Tryd.f5.params[j]? = some t → args[j]? = some v → Value.okWide Tryd.prog W .any base t v := hval0
  have hW' := hW
  obtain ⟨p, q, hA0, hV, rfl, hfz, hnd⟩ := hW
  have hA : DataW.TrodAll enc Tryd.prog W 0 (fun _ => true) true Tryd.f5.params.toList args.toList ds p := hA0
  rw [Tryd.params5] at hA hval
  obtain ⟨v0, vs0, d0, ds0, p0, q0, hargs, rfl, rfl, h0, r0⟩ := trodAll_cons hA
  obtain ⟨rfl, rfl, rfl⟩ := trodAll_nil r0
  obtain rfl : args = #[v0] := by cases args; simp_all
  obtain ⟨rfl, rfl⟩ := trodVars_none hV
  have k0_ := h0
  have lt0 : ∀ x ∈ p0, x.block < W.heap.size := by obtain ⟨m, hm⟩ := k0_; exact DataW.trod_lt m _ _ _ hm
  obtain ⟨a0_, len0_, cap0_, rfl⟩ := okWide_slice Tryd.underlying33 (hval 0 33 v0 rfl rfl)
  obtain ⟨x0, K0, wf0_⟩ := Opens.param (Opens.slice 5 Tryd.underlying33 (by kernel_rfl) (Opens.int Tryd.underlying5)) h0
  obtain ⟨A0, c0, e0, l0, g0⟩ := K0
  simp [Value.cells] at e0
  obtain ⟨rfl, rfl, rfl⟩ := e0
  obtain ⟨k, hk⟩ := pureFnTexts x0 wf0_
  clear hA0 hval0
  refine (laws_FnTexts.calls k _ _ x0 true W g0 l0 hk).mono fun e W' hh => ?_
  obtain ⟨he, bel0⟩ := hh
  have bel : Below W.heap.size W W' := bel0
  subst he
  exact ⟨_, rfl, _, _, _, [], _, [], hW', trodAll_mk1 (shut_bool Tryd.underlying4 _), (trodAll_cons_mk (Below.trod laidOut (by kernel_rfl) (of_decide_eq_true (by kernel_rfl)) k0_ bel lt0) trodAll_mk0), rfl, bel.frame _, fun h => by cases h⟩
def holds (cs : Array Value) : Obj → Obj
  | .cells _ t frozen => .cells cs t frozen
  | o => o
noncomputable def laidWorld (os : Os) : World :=
  let w := World.holding Tryd.prog os ⟨#[], #[], []⟩
  let first : List Nat := Go.Pinned.utf8FirstZ
  let ranges : List Nat := [128, 191, 160, 191, 128, 159, 144, 191, 128, 143, 0, 0, 0, 0, 0, 0, 0, 0, 0, 0, 0, 0, 0, 0, 0, 0, 0, 0, 0, 0, 0, 0]
  { w with heap := (w.heap.modify 1 (holds (first.map fun (n : Nat) => Value.int .u8 (n : Int)).toArray)).modify 2 (holds (ranges.map fun (n : Nat) => Value.int .u8 (n : Int)).toArray) }
set_option maxRecDepth 100000 in
theorem laid_met (os : Os) : laidMet Tryd.prog Rows.fnTextsRow.laid ((laidWorld os).forCall (fun _ _ => 0) ⟨#[], #[.slice none 0 0], []⟩).memory :=
  laidMet_of_run' 8 (by kernel_rfl) (by kernel_rfl)
theorem reads (os : Os) {H : Type} (enc : TypeId × Value → H) : ∃ places, DataW.whole enc Tryd.prog ((laidWorld os).forCall (fun _ _ => 0) ⟨#[], #[.slice none 0 0], []⟩).memory Tryd.f5.params.toList Rows.fnTextsSpec.vars false (#[.slice none 0 0] : Array Value).toList 8 = some ([.nil], [], places) :=
  ⟨[], by kernel_rfl⟩
set_option maxRecDepth 100000 in
theorem lifted (os : Os) (started : os.Started) (H : Type) (enc : TypeId × Value → H) (F : Stop.Interp) :
    ReturnsInHanded {} Tryd.checked os 5 .any ((OpenSpec.ofChange Rows.fnTextsSpec).preRow enc Tryd.prog Tryd.f5 Rows.fnTextsRow.domain false Rows.fnTextsRow.laid) (((OpenSpec.ofChange Rows.fnTextsSpec).at F).post enc Tryd.prog Tryd.f5 false true false false) := by
  obtain ⟨places, hx⟩ := reads os enc
  refine returnsInHanded_of_row (C := Tryd.checked) (s := OpenSpec.ofChange Rows.fnTextsSpec) own started (by kernel_rfl) Tryd.func5
    (witness_row_at (enc := enc) (C := Tryd.checked) false (laidWorld os) #[.slice none 0 0] rfl (by kernel_rfl) (by kernel_rfl) (by kernel_rfl)
      (OpenSpec.preRow_of_cond 8 hx (by kernel_rfl) (fun k hk => by cases hk) (by kernel_rfl) (laid_met os))) ?_
  intro W base args ds gs before hval hW _ _ _ _ _ _
  exact contract H enc W base args ds gs before hval hW
theorem said : Rows.FnTextsSaid :=
  OpenClaim.holds_of_cond 5 Tryd.f5 rfl rfl rfl rfl rfl rfl rfl ⟨rfl, rfl, rfl, rfl, rfl⟩ rfl rfl rfl rfl rfl (by kernel_rfl) Tryd.func5 (by kernel_rfl)
    (of_decide_eq_true (by kernel_rfl)) (by unfold Func.isWrapper; first | (rw [if_pos (by decide +kernel)]; kernel_rfl) | (rw [if_neg (by decide +kernel)]; exact ⟨rfl, rfl⟩))
    (fun os started H enc _ F => by rw [OpenClaim.pre_eq_preRow]; exact lifted os started H enc F)
theorem plain (f : FuncId) (fn : Func) (hf : Tryd.pinned.checked.prog.funcNamed "loop.example/g00468/laws.FnTexts" = some f) (hfn : Tryd.pinned.checked.prog.funcs[f]? = some fn) :
    false = Tryd.pinned.checked.prog.looks [] ∧ ∀ (j : Nat) t, fn.params[j]? = some t → Tryd.pinned.checked.prog.wantsStandIn t = false := by
  obtain rfl : f = 5 := Option.some.inj ((show Tryd.prog.funcNamed "loop.example/g00468/laws.FnTexts" = some 5 by kernel_rfl).symm.trans hf) |>.symm
  obtain rfl : fn = Tryd.f5 := (Option.some.inj (Tryd.func5.symm.trans hfn)).symm
  refine ⟨by kernel_rfl, fun j t ht => ?_⟩
  rw [Tryd.params5] at ht
  obtain rfl : t = 33 := by simpa using Array.mem_of_getElem? ht
  exact (show Tryd.prog.wantsStandIn 33 = false by kernel_rfl)
theorem card : Rows.FnTextsCardSaid :=
  Claim7.holds_tied_plain_at .later [] _ _ _ _ said (fun _ h => by cases h) (by kernel_rfl) (fun _ h => by cases h) fnTexts_row_tie rfl ⟨rfl, rfl⟩ (by kernel_rfl) rfl plain (by kernel_rfl)
#print axioms card
end Go.Proofs.YtafcfhgdblefgaaDoor.fnTexts
namespace Go.Proofs.YtafcfhgdblefgaaDoor
theorem fnTexts_holds : Rows.FnTextsCardSaid := fnTexts.card
end Go.Proofs.YtafcfhgdblefgaaDoor

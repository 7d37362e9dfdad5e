/- The law FnTupleOrder holds: for every input the call returns true, and each argument reads afterwards as_ it read before. Conditions: none. Written by a program of this session. -/
import Derived.OpenShut
import Derived.DataElems
import Derived.DataReads
import Derived.Laws.BitsLemmas
import Derived.Test.YtcedikpkbgofhaaRows
import Derived.WalkKit
import Derived.ProofKit
import Derived.ShutString
import Derived.ChangeOld
import Derived.Below
import Derived.SizedLaws
import Derived.Carry
import Derived.Test.YtcedikpkbgofhaaPkFnTupleOrder3
namespace Go.Proofs.Ytcedikpkbgofhaa.P
open Go.RowKit Go.Proofs.YtcedikpkbgofhaaW.PrintWords Go.Proofs.YtcedikpkbgofhaaW.PrintLast Go.Proofs.YtcedikpkbgofhaaW.PrintMore
attribute [local go_sem] max2_int min2_int max_two min_two max_three min_three max_four min_four   -- for this text's walks alone
set_option linter.unusedVariables false
set_option linter.unusedSimpArgs false
def laws_FnTupleOrder.j0 : Nat → List (S37) → List (S37) → Bool → Bool → Option (Bool)
  | 0, _, _, _, _ => none
  | k + 1, x3, x4, x5, x30 => if x30 = true then (some true) else ((impl_TupleBytes.f k x3).bind fun t112 => ((impl_TupleBytes.f k x4).bind fun t115 => (if ((Op.bytesLess ((strOfNums t112).toList) ((strOfNums t115).toList)) == x5) = true then ((impl_TupleLess.f k x4 x3).bind fun t118 => (if ((Op.bytesLess ((strOfNums t115).toList) ((strOfNums t112).toList)) == t118) = true then ((laws_sameTuple.f k x3 x4).bind fun t119 => (some (((strOfNums t112).toList == (strOfNums t115).toList) == t119))) else (some false))) else (some false))))
def laws_FnTupleOrder.f (k : Nat) (l0 : List Int) : Option (Bool) := (laws_big.f l0).bind fun t101 => (if t101 = true then (some true) else ((spec_DrawTupleLess.f k l0).bind fun bt102 => ((impl_TupleLess.f k bt102.1 bt102.2).bind fun t108 => ((spec_TupleLess.f k bt102.1 bt102.2).bind fun t109 => (if (t108 != t109) = true then (some false) else ((impl_TupleOk.f k bt102.1).bind fun t110 => (if t110 = true then ((impl_TupleOk.f k bt102.2).bind fun t111 => (laws_FnTupleOrder.j0 k bt102.1 bt102.2 t108 (!t111))) else (laws_FnTupleOrder.j0 k bt102.1 bt102.2 t108 true))))))))
def laws_FnTupleOrder.T9 : Bool × List (List Nat × List Nat) := (true, [([], []), ([0], [0]), ([1], [1]), ([], []), ([3, 1], [3]), ([4], [4]), ([2, 4, 0, 1, 2], [2]), ([5, 6, 0, 1, 2, 3, 4, 5, 6], [5])])
def laws_FnTupleOrder.B9 : List Nat := [0, 1, 3, 0, 11, 27, 31, 127]
theorem laws_FnTupleOrder.tab9 : rtab .any (opsOf Try.f3 9) = laws_FnTupleOrder.T9 := by kernel_rfl
theorem laws_FnTupleOrder.bits9 : waitsOk laws_FnTupleOrder.T9.2 laws_FnTupleOrder.B9 = true := by kernel_rfl
set_option maxHeartbeats 8000000 in
set_option maxRecDepth 100000 in
theorem laws_FnTupleOrder.calls (k : Nat) (A0 : Option Addr) (c0 : Nat) (l0 : List Int) (r : Bool) (w : World) (hr0 : Kd.C (Kd.int .u8) w A0 l0.length l0) (hc0 : l0.length ≤ c0) (h : laws_FnTupleOrder.f k l0 = some r) :
    Calls Try.prog 3 #[.slice A0 l0.length c0] w fun e w' => e = .returned (.bool r) ∧ Below w.heap.size w w' := by
  have HR0 := Aside0.mk hr0
  have HC0 := Aside0.mk hc0
  clear hr0 hc0
  have HB := Aside0.mk (Below.refl w.heap.size w)
  have H : ((laws_big.f l0).bind fun t101 => (if t101 = true then (some true) else ((spec_DrawTupleLess.f k l0).bind fun bt102 => ((impl_TupleLess.f k bt102.1 bt102.2).bind fun t108 => ((spec_TupleLess.f k bt102.1 bt102.2).bind fun t109 => (if (t108 != t109) = true then (some false) else ((impl_TupleOk.f k bt102.1).bind fun t110 => (if t110 = true then ((impl_TupleOk.f k bt102.2).bind fun t111 => (laws_FnTupleOrder.j0 k bt102.1 bt102.2 t108 (!t111))) else (laws_FnTupleOrder.j0 k bt102.1 bt102.2 t108 true))))))))) = some r := h
  clear h
  replace H := Option.bind_eq_some_iff.mp H
  obtain ⟨t101, A20, H⟩ := H
  replace H : (if t101 = true then (some true) else ((spec_DrawTupleLess.f k l0).bind fun bt102 => ((impl_TupleLess.f k bt102.1 bt102.2).bind fun t108 => ((spec_TupleLess.f k bt102.1 bt102.2).bind fun t109 => (if (t108 != t109) = true then (some false) else ((impl_TupleOk.f k bt102.1).bind fun t110 => (if t110 = true then ((impl_TupleOk.f k bt102.2).bind fun t111 => (laws_FnTupleOrder.j0 k bt102.1 bt102.2 t108 (!t111))) else (laws_FnTupleOrder.j0 k bt102.1 bt102.2 t108 true)))))))) = some r := H
  have A2 := Aside0.mk A20
  clear A20
  by_cases c3 : t101 = true
  · subst c3
    have H1 : (some true) = some r := by rw [if_pos rfl] at H; exact H
    clear H
    have H := H1
    clear H1
    obtain rfl := Option.some.inj H
    go_enter Try.func3, Try.ntmps3
    go_wp2_with (first | ((with_reducible refine gate_callee (f := 9) rfl ?_); refine goesL_ (some 9) rfl rfl Try.func9 (by kernel_rfl) rfl #[.slice A0 l0.length c0] rfl (by (try simp only [List.map_toArray, List.map_cons, List.map_nil]); first | done | rfl | (simp only [List.length_drop, List.length_take]; rfl)) ?_; (with_reducible refine (laws_big.calls _ _ l0 true _ ?side1 ?side2 A2.out).mono ?_); (case side1 => repeat (first | exact HR0.out | (with_reducible refine Kd.C_alloc ?_ _) | (with_reducible refine Kd.C_drewN ?_ _) | (with_reducible refine Kd.C_drew ?_))); (case side2 => exact HC0.out); rintro e w' ⟨rfl, ⟨nd, rfl⟩⟩; refine ⟨_, rfl, ?_⟩))
    go_ret
    exact ⟨by first | rfl | (simp [errW_none, errW_some] <;> rfl) | (simp [*, errW_none, errW_some] <;> rfl), by repeat (first | (with_reducible first | exact HB.out | apply below_alloc | apply pw_below_drewN | apply below_drew1) | exact HB.out)⟩
  · replace c3 := Bool.eq_false_iff.mpr c3
    subst c3
    have H1 : ((spec_DrawTupleLess.f k l0).bind fun bt102 => ((impl_TupleLess.f k bt102.1 bt102.2).bind fun t108 => ((spec_TupleLess.f k bt102.1 bt102.2).bind fun t109 => (if (t108 != t109) = true then (some false) else ((impl_TupleOk.f k bt102.1).bind fun t110 => (if t110 = true then ((impl_TupleOk.f k bt102.2).bind fun t111 => (laws_FnTupleOrder.j0 k bt102.1 bt102.2 t108 (!t111))) else (laws_FnTupleOrder.j0 k bt102.1 bt102.2 t108 true))))))) = some r := by rw [if_neg (show ¬ (false = true) by decide)] at H; exact H
    clear H
    have H := H1
    clear H1
    replace H := Option.bind_eq_some_iff.mp H
    obtain ⟨⟨t102, t103⟩, A40, H⟩ := H
    replace H : ((impl_TupleLess.f k t102 t103).bind fun t108 => ((spec_TupleLess.f k t102 t103).bind fun t109 => (if (t108 != t109) = true then (some false) else ((impl_TupleOk.f k t102).bind fun t110 => (if t110 = true then ((impl_TupleOk.f k t103).bind fun t111 => (laws_FnTupleOrder.j0 k t102 t103 t108 (!t111))) else (laws_FnTupleOrder.j0 k t102 t103 t108 true)))))) = some r := H
    have A4 := Aside0.mk A40
    clear A40
    replace H := Option.bind_eq_some_iff.mp H
    obtain ⟨t108, A50, H⟩ := H
    replace H : ((spec_TupleLess.f k t102 t103).bind fun t109 => (if (t108 != t109) = true then (some false) else ((impl_TupleOk.f k t102).bind fun t110 => (if t110 = true then ((impl_TupleOk.f k t103).bind fun t111 => (laws_FnTupleOrder.j0 k t102 t103 t108 (!t111))) else (laws_FnTupleOrder.j0 k t102 t103 t108 true))))) = some r := H
    have A5 := Aside0.mk A50
    clear A50
    replace H := Option.bind_eq_some_iff.mp H
    obtain ⟨t109, A60, H⟩ := H
    replace H : (if (t108 != t109) = true then (some false) else ((impl_TupleOk.f k t102).bind fun t110 => (if t110 = true then ((impl_TupleOk.f k t103).bind fun t111 => (laws_FnTupleOrder.j0 k t102 t103 t108 (!t111))) else (laws_FnTupleOrder.j0 k t102 t103 t108 true)))) = some r := H
    have A6 := Aside0.mk A60
    clear A60
    by_cases c7 : (t108 != t109) = true
    · rw [if_pos c7] at H
      have c7b0 : (t108 != t109) = true := c7
      (try (have c7b1 : decide (t108 = t109) = false := by simpa using c7))
      (try (have c7b2 : (t108 == t109) = false := by simpa using c7))
      (try (have c7b3 : ¬ (t108 = t109) := by simpa using c7))
      clear c7
      obtain rfl := Option.some.inj H
      go_enter Try.func3, Try.ntmps3
      go_wp2_with (first | ((with_reducible refine gate_callee (f := 9) rfl ?_); refine goesL_ (some 9) rfl rfl Try.func9 (by kernel_rfl) rfl #[.slice A0 l0.length c0] rfl (by (try simp only [List.map_toArray, List.map_cons, List.map_nil]); first | done | rfl | (simp only [List.length_drop, List.length_take]; rfl)) ?_; (with_reducible refine (laws_big.calls _ _ l0 false _ ?side1 ?side2 A2.out).mono ?_); (case side1 => repeat (first | exact HR0.out | (with_reducible refine Kd.C_alloc ?_ _) | (with_reducible refine Kd.C_drewN ?_ _) | (with_reducible refine Kd.C_drew ?_))); (case side2 => exact HC0.out); rintro e w' ⟨rfl, ⟨nd, rfl⟩⟩; refine ⟨_, rfl, ?_⟩) | ((with_reducible refine gate_callee (f := 10) rfl ?_); refine goesL_ (some 12) rfl rfl Try.func10 (by kernel_rfl) rfl #[.slice A0 l0.length c0] rfl (by (try simp only [List.map_toArray, List.map_cons, List.map_nil]); first | done | rfl | (simp only [List.length_drop, List.length_take]; rfl)) ?_; (with_reducible refine (spec_DrawTupleLess.calls k _ _ l0 t102 t103 _ ?side1 ?side2 A4.out).mono ?_); (case side1 => repeat (first | exact HR0.out | (with_reducible refine Kd.C_alloc ?_ _) | (with_reducible refine Kd.C_drewN ?_ _) | (with_reducible refine Kd.C_drew ?_))); (case side2 => exact HC0.out); rintro e w8 ⟨v104, v106, rfl, ho0, ho1, hb⟩; refine ⟨_, rfl, ?_⟩; have n0_ := Aside0.mk (Kd.R_lower ho0 (below_size (by repeat (first | (with_reducible first | exact HB.out | apply below_alloc | apply pw_below_drewN | apply below_drew1) | exact HB.out)))); have n1_ := Aside0.mk (Kd.R_lower ho1 (below_size (by repeat (first | (with_reducible first | exact HB.out | apply below_alloc | apply pw_below_drewN | apply below_drew1) | exact HB.out)))); have n2_ := Aside0.mk (below_step (by repeat (first | (with_reducible first | exact HB.out | apply below_alloc | apply pw_below_drewN | apply below_drew1) | exact HB.out)) hb); clear HB; have HO105 := n0_; have HO107 := n1_; have HB := n2_; clear n0_ n1_ n2_; (try clear hb); (try clear hb2); (try clear hk); (try clear hi); (try clear ho0); (try clear ho1); obtain ⟨Ao9, co9, eo9⟩ := Kd.R_slice HO105.out; subst eo9; obtain ⟨Ao10, co10, eo10⟩ := Kd.R_slice HO107.out; subst eo10) | ((with_reducible refine gate_callee (f := 11) rfl ?_); refine goesL_ (some 17) rfl rfl Try.func11 (by kernel_rfl) rfl #[.slice Ao9 t102.length co9, .slice Ao10 t103.length co10] rfl (by (try simp only [List.map_toArray, List.map_cons, List.map_nil]); first | done | rfl | (simp only [List.length_drop, List.length_take]; rfl)) ?_; (with_reducible refine (impl_TupleLess.calls k _ _ t102 _ _ t103 t108 _ ?side1 ?side2 ?side3 ?side4 A5.out).mono ?_); (case side1 => repeat (first | exact (Kd.R_reads' HO105.out).2.2 | (with_reducible refine Kd.C_alloc ?_ _) | (with_reducible refine Kd.C_drewN ?_ _) | (with_reducible refine Kd.C_drew ?_))); (case side2 => exact (Kd.R_reads' HO105.out).2.1); (case side3 => repeat (first | exact (Kd.R_reads' HO107.out).2.2 | (with_reducible refine Kd.C_alloc ?_ _) | (with_reducible refine Kd.C_drewN ?_ _) | (with_reducible refine Kd.C_drew ?_))); (case side4 => exact (Kd.R_reads' HO107.out).2.1); rintro e w11 ⟨rfl, hb⟩; refine ⟨_, rfl, ?_⟩; have n0_ := Aside0.mk (Kd.R_below (by (with_reducible repeat (first | apply Kd.R_alloc | apply Kd.R_drewN | apply Kd.R_drew)); exact HO105.out) hb); have n1_ := Aside0.mk (Kd.R_below (by (with_reducible repeat (first | apply Kd.R_alloc | apply Kd.R_drewN | apply Kd.R_drew)); exact HO107.out) hb); have n2_ := Aside0.mk (below_step (by repeat (first | (with_reducible first | exact HB.out | apply below_alloc | apply pw_below_drewN | apply below_drew1) | exact HB.out)) hb); clear HO105; clear HO107; clear HB; have HO105 := n0_; have HO107 := n1_; have HB := n2_; clear n0_ n1_ n2_; (try clear hb); (try clear hb2); (try clear hk); (try clear hi)) | ((with_reducible refine gate_callee (f := 12) rfl ?_); refine goesL_ (some 21) rfl rfl Try.func12 (by kernel_rfl) rfl #[.slice Ao9 t102.length co9, .slice Ao10 t103.length co10] rfl (by (try simp only [List.map_toArray, List.map_cons, List.map_nil]); first | done | rfl | (simp only [List.length_drop, List.length_take]; rfl)) ?_; (with_reducible refine (spec_TupleLess.calls k _ _ t102 _ _ t103 t109 _ ?side1 ?side2 ?side3 ?side4 A6.out).mono ?_); (case side1 => repeat (first | exact (Kd.R_reads' HO105.out).2.2 | (with_reducible refine Kd.C_alloc ?_ _) | (with_reducible refine Kd.C_drewN ?_ _) | (with_reducible refine Kd.C_drew ?_))); (case side2 => exact (Kd.R_reads' HO105.out).2.1); (case side3 => repeat (first | exact (Kd.R_reads' HO107.out).2.2 | (with_reducible refine Kd.C_alloc ?_ _) | (with_reducible refine Kd.C_drewN ?_ _) | (with_reducible refine Kd.C_drew ?_))); (case side4 => exact (Kd.R_reads' HO107.out).2.1); rintro e w12 ⟨rfl, hb⟩; refine ⟨_, rfl, ?_⟩; have n0_ := Aside0.mk (Kd.R_below (by (with_reducible repeat (first | apply Kd.R_alloc | apply Kd.R_drewN | apply Kd.R_drew)); exact HO105.out) hb); have n1_ := Aside0.mk (Kd.R_below (by (with_reducible repeat (first | apply Kd.R_alloc | apply Kd.R_drewN | apply Kd.R_drew)); exact HO107.out) hb); have n2_ := Aside0.mk (below_step (by repeat (first | (with_reducible first | exact HB.out | apply below_alloc | apply pw_below_drewN | apply below_drew1) | exact HB.out)) hb); clear HO105; clear HO107; clear HB; have HO105 := n0_; have HO107 := n1_; have HB := n2_; clear n0_ n1_ n2_; (try clear hb); (try clear hb2); (try clear hk); (try clear hi)))
      go_ret
      exact ⟨by first | rfl | (simp [errW_none, errW_some] <;> rfl) | (simp [*, errW_none, errW_some] <;> rfl), by repeat (first | (with_reducible first | exact HB.out | apply below_alloc | apply pw_below_drewN | apply below_drew1) | exact HB.out)⟩
    · rw [if_neg c7] at H
      have c7b0 : (t108 != t109) = false := by simpa using c7
      (try (have c7b1 : decide (t108 = t109) = true := by simpa using c7))
      (try (have c7b2 : (t108 == t109) = true := by simpa using c7))
      clear c7
      have HC13 := Aside0.mk H
      clear H
      go_enter Try.func3, Try.ntmps3
      go_upto_region 7 with (first | ((with_reducible refine gate_callee (f := 9) rfl ?_); refine goesL_ (some 9) rfl rfl Try.func9 (by kernel_rfl) rfl #[.slice A0 l0.length c0] rfl (by (try simp only [List.map_toArray, List.map_cons, List.map_nil]); first | done | rfl | (simp only [List.length_drop, List.length_take]; rfl)) ?_; (with_reducible refine (laws_big.calls _ _ l0 false _ ?side1 ?side2 A2.out).mono ?_); (case side1 => repeat (first | exact HR0.out | (with_reducible refine Kd.C_alloc ?_ _) | (with_reducible refine Kd.C_drewN ?_ _) | (with_reducible refine Kd.C_drew ?_))); (case side2 => exact HC0.out); rintro e w' ⟨rfl, ⟨nd, rfl⟩⟩; refine ⟨_, rfl, ?_⟩) | ((with_reducible refine gate_callee (f := 10) rfl ?_); refine goesL_ (some 12) rfl rfl Try.func10 (by kernel_rfl) rfl #[.slice A0 l0.length c0] rfl (by (try simp only [List.map_toArray, List.map_cons, List.map_nil]); first | done | rfl | (simp only [List.length_drop, List.length_take]; rfl)) ?_; (with_reducible refine (spec_DrawTupleLess.calls k _ _ l0 t102 t103 _ ?side1 ?side2 A4.out).mono ?_); (case side1 => repeat (first | exact HR0.out | (with_reducible refine Kd.C_alloc ?_ _) | (with_reducible refine Kd.C_drewN ?_ _) | (with_reducible refine Kd.C_drew ?_))); (case side2 => exact HC0.out); rintro e w14 ⟨v104, v106, rfl, ho0, ho1, hb⟩; refine ⟨_, rfl, ?_⟩; have n0_ := Aside0.mk (Kd.R_lower ho0 (below_size (by repeat (first | (with_reducible first | exact HB.out | apply below_alloc | apply pw_below_drewN | apply below_drew1) | exact HB.out)))); have n1_ := Aside0.mk (Kd.R_lower ho1 (below_size (by repeat (first | (with_reducible first | exact HB.out | apply below_alloc | apply pw_below_drewN | apply below_drew1) | exact HB.out)))); have n2_ := Aside0.mk (below_step (by repeat (first | (with_reducible first | exact HB.out | apply below_alloc | apply pw_below_drewN | apply below_drew1) | exact HB.out)) hb); clear HB; have HO105 := n0_; have HO107 := n1_; have HB := n2_; clear n0_ n1_ n2_; (try clear hb); (try clear hb2); (try clear hk); (try clear hi); (try clear ho0); (try clear ho1); obtain ⟨Ao15, co15, eo15⟩ := Kd.R_slice HO105.out; subst eo15; obtain ⟨Ao16, co16, eo16⟩ := Kd.R_slice HO107.out; subst eo16) | ((with_reducible refine gate_callee (f := 11) rfl ?_); refine goesL_ (some 17) rfl rfl Try.func11 (by kernel_rfl) rfl #[.slice Ao15 t102.length co15, .slice Ao16 t103.length co16] rfl (by (try simp only [List.map_toArray, List.map_cons, List.map_nil]); first | done | rfl | (simp only [List.length_drop, List.length_take]; rfl)) ?_; (with_reducible refine (impl_TupleLess.calls k _ _ t102 _ _ t103 t108 _ ?side1 ?side2 ?side3 ?side4 A5.out).mono ?_); (case side1 => repeat (first | exact (Kd.R_reads' HO105.out).2.2 | (with_reducible refine Kd.C_alloc ?_ _) | (with_reducible refine Kd.C_drewN ?_ _) | (with_reducible refine Kd.C_drew ?_))); (case side2 => exact (Kd.R_reads' HO105.out).2.1); (case side3 => repeat (first | exact (Kd.R_reads' HO107.out).2.2 | (with_reducible refine Kd.C_alloc ?_ _) | (with_reducible refine Kd.C_drewN ?_ _) | (with_reducible refine Kd.C_drew ?_))); (case side4 => exact (Kd.R_reads' HO107.out).2.1); rintro e w17 ⟨rfl, hb⟩; refine ⟨_, rfl, ?_⟩; have n0_ := Aside0.mk (Kd.R_below (by (with_reducible repeat (first | apply Kd.R_alloc | apply Kd.R_drewN | apply Kd.R_drew)); exact HO105.out) hb); have n1_ := Aside0.mk (Kd.R_below (by (with_reducible repeat (first | apply Kd.R_alloc | apply Kd.R_drewN | apply Kd.R_drew)); exact HO107.out) hb); have n2_ := Aside0.mk (below_step (by repeat (first | (with_reducible first | exact HB.out | apply below_alloc | apply pw_below_drewN | apply below_drew1) | exact HB.out)) hb); clear HO105; clear HO107; clear HB; have HO105 := n0_; have HO107 := n1_; have HB := n2_; clear n0_ n1_ n2_; (try clear hb); (try clear hb2); (try clear hk); (try clear hi)) | ((with_reducible refine gate_callee (f := 12) rfl ?_); refine goesL_ (some 21) rfl rfl Try.func12 (by kernel_rfl) rfl #[.slice Ao15 t102.length co15, .slice Ao16 t103.length co16] rfl (by (try simp only [List.map_toArray, List.map_cons, List.map_nil]); first | done | rfl | (simp only [List.length_drop, List.length_take]; rfl)) ?_; (with_reducible refine (spec_TupleLess.calls k _ _ t102 _ _ t103 t109 _ ?side1 ?side2 ?side3 ?side4 A6.out).mono ?_); (case side1 => repeat (first | exact (Kd.R_reads' HO105.out).2.2 | (with_reducible refine Kd.C_alloc ?_ _) | (with_reducible refine Kd.C_drewN ?_ _) | (with_reducible refine Kd.C_drew ?_))); (case side2 => exact (Kd.R_reads' HO105.out).2.1); (case side3 => repeat (first | exact (Kd.R_reads' HO107.out).2.2 | (with_reducible refine Kd.C_alloc ?_ _) | (with_reducible refine Kd.C_drewN ?_ _) | (with_reducible refine Kd.C_drew ?_))); (case side4 => exact (Kd.R_reads' HO107.out).2.1); rintro e w18 ⟨rfl, hb⟩; refine ⟨_, rfl, ?_⟩; have n0_ := Aside0.mk (Kd.R_below (by (with_reducible repeat (first | apply Kd.R_alloc | apply Kd.R_drewN | apply Kd.R_drew)); exact HO105.out) hb); have n1_ := Aside0.mk (Kd.R_below (by (with_reducible repeat (first | apply Kd.R_alloc | apply Kd.R_drewN | apply Kd.R_drew)); exact HO107.out) hb); have n2_ := Aside0.mk (below_step (by repeat (first | (with_reducible first | exact HB.out | apply below_alloc | apply pw_below_drewN | apply below_drew1) | exact HB.out)) hb); clear HO105; clear HO107; clear HB; have HO105 := n0_; have HO107 := n1_; have HB := n2_; clear n0_ n1_ n2_; (try clear hb); (try clear hb2); (try clear hk); (try clear hi)))
      (try simp only [Act.put, List.setIfInBounds_toArray, List.set_cons_zero, List.set_cons_succ])
      go_cut [30] (fun v30 wc => ∃ (kq : Nat) (x30_12 : Bool), v30 = .bool x30_12 ∧ Aside0 (laws_FnTupleOrder.j0 kq t102 t103 t108 x30_12 = some r) ∧ Aside0 (kq ≤ k) ∧ Aside0 (Kd.R k37 37 wc w.heap.size (fun k_ => some k_ ≠ ((.slice Ao16 t103.length co16) : Value).ownBlock) (.slice Ao15 t102.length co15) t102) ∧ Aside0 (Kd.R k37 37 wc w.heap.size (fun k_ => some k_ ≠ ((.slice Ao15 t102.length co15) : Value).ownBlock) (.slice Ao16 t103.length co16) t103) ∧ Aside0 (Below w.heap.size w wc))
      case first =>
        have H := HC13.out
        clear HC13
        replace H := Option.bind_eq_some_iff.mp H
        obtain ⟨t110, A190, H⟩ := H
        replace H : (if t110 = true then ((impl_TupleOk.f k t103).bind fun t111 => (laws_FnTupleOrder.j0 k t102 t103 t108 (!t111))) else (laws_FnTupleOrder.j0 k t102 t103 t108 true)) = some r := H
        have A19 := Aside0.mk A190
        clear A190
        by_cases c20 : t110 = true
        · subst c20
          have H1 : ((impl_TupleOk.f k t103).bind fun t111 => (laws_FnTupleOrder.j0 k t102 t103 t108 (!t111))) = some r := by rw [if_pos rfl] at H; exact H
          clear H
          have H := H1
          clear H1
          replace H := Option.bind_eq_some_iff.mp H
          obtain ⟨t111, A210, H⟩ := H
          replace H : (laws_FnTupleOrder.j0 k t102 t103 t108 (!t111)) = some r := H
          have A21 := Aside0.mk A210
          clear A210
          have H' := Aside0.mk H
          clear H
          go_wp2_with (first | ((with_reducible refine gate_callee (f := 13) rfl ?_); refine goesL_ (some 24) rfl rfl Try.func13 (by kernel_rfl) rfl #[.slice Ao15 t102.length co15] rfl (by (try simp only [List.map_toArray, List.map_cons, List.map_nil]); first | done | rfl | (simp only [List.length_drop, List.length_take]; rfl)) ?_; (with_reducible refine (impl_TupleOk.calls k _ _ t102 true _ ?side1 ?side2 A19.out).mono ?_); (case side1 => repeat (first | exact (Kd.R_reads' HO105.out).2.2 | (with_reducible refine Kd.C_alloc ?_ _) | (with_reducible refine Kd.C_drewN ?_ _) | (with_reducible refine Kd.C_drew ?_))); (case side2 => exact (Kd.R_reads' HO105.out).2.1); rintro e w22 ⟨rfl, hb⟩; refine ⟨_, rfl, ?_⟩; have n0_ := Aside0.mk (Kd.R_below (by (with_reducible repeat (first | apply Kd.R_alloc | apply Kd.R_drewN | apply Kd.R_drew)); exact HO105.out) hb); have n1_ := Aside0.mk (Kd.R_below (by (with_reducible repeat (first | apply Kd.R_alloc | apply Kd.R_drewN | apply Kd.R_drew)); exact HO107.out) hb); have n2_ := Aside0.mk (below_step (by repeat (first | (with_reducible first | exact HB.out | apply below_alloc | apply pw_below_drewN | apply below_drew1) | exact HB.out)) hb); clear HO105; clear HO107; clear HB; have HO105 := n0_; have HO107 := n1_; have HB := n2_; clear n0_ n1_ n2_; (try clear hb); (try clear hb2); (try clear hk); (try clear hi)) | (go_at_call 13; (with_reducible refine (impl_TupleOk.calls k _ _ t103 t111 _ ?side1 ?side2 A21.out).mono ?_); (case side1 => repeat (first | exact (Kd.R_reads' HO107.out).2.2 | (with_reducible refine Kd.C_alloc ?_ _) | (with_reducible refine Kd.C_drewN ?_ _) | (with_reducible refine Kd.C_drew ?_))); (case side2 => exact (Kd.R_reads' HO107.out).2.1); rintro e w23 ⟨rfl, hb⟩; have n0_ := Aside0.mk (Kd.R_below (by (with_reducible repeat (first | apply Kd.R_alloc | apply Kd.R_drewN | apply Kd.R_drew)); exact HO105.out) hb); have n1_ := Aside0.mk (Kd.R_below (by (with_reducible repeat (first | apply Kd.R_alloc | apply Kd.R_drewN | apply Kd.R_drew)); exact HO107.out) hb); have n2_ := Aside0.mk (below_step (by repeat (first | (with_reducible first | exact HB.out | apply below_alloc | apply pw_below_drewN | apply below_drew1) | exact HB.out)) hb); clear HO105; clear HO107; clear HB; have HO105 := n0_; have HO107 := n1_; have HB := n2_; clear n0_ n1_ n2_; (try clear hb); (try clear hb2); (try clear hk); (try clear hi)))
          go_meet
          case rel => exact ⟨_, (!t111), (by first | rfl | (simp; done) | (simp [*]; done)), H', ⟨by first | omega | exact Nat.le_refl _⟩, ⟨by (with_reducible repeat (first | apply Kd.R_alloc | apply Kd.R_drewN | apply Kd.R_drew)); exact HO105.out⟩, ⟨by (with_reducible repeat (first | apply Kd.R_alloc | apply Kd.R_drewN | apply Kd.R_drew)); exact HO107.out⟩, ⟨by repeat (first | (with_reducible first | exact HB.out | apply below_alloc | apply pw_below_drewN | apply below_drew1) | exact HB.out)⟩⟩
        · replace c20 := Bool.eq_false_iff.mpr c20
          subst c20
          have H1 : (laws_FnTupleOrder.j0 k t102 t103 t108 true) = some r := by rw [if_neg (show ¬ (false = true) by decide)] at H; exact H
          clear H
          have H := H1
          clear H1
          have H' := Aside0.mk H
          clear H
          go_wp2_with (first | ((with_reducible refine gate_callee (f := 13) rfl ?_); refine goesL_ (some 24) rfl rfl Try.func13 (by kernel_rfl) rfl #[.slice Ao15 t102.length co15] rfl (by (try simp only [List.map_toArray, List.map_cons, List.map_nil]); first | done | rfl | (simp only [List.length_drop, List.length_take]; rfl)) ?_; (with_reducible refine (impl_TupleOk.calls k _ _ t102 false _ ?side1 ?side2 A19.out).mono ?_); (case side1 => repeat (first | exact (Kd.R_reads' HO105.out).2.2 | (with_reducible refine Kd.C_alloc ?_ _) | (with_reducible refine Kd.C_drewN ?_ _) | (with_reducible refine Kd.C_drew ?_))); (case side2 => exact (Kd.R_reads' HO105.out).2.1); rintro e w24 ⟨rfl, hb⟩; refine ⟨_, rfl, ?_⟩; have n0_ := Aside0.mk (Kd.R_below (by (with_reducible repeat (first | apply Kd.R_alloc | apply Kd.R_drewN | apply Kd.R_drew)); exact HO105.out) hb); have n1_ := Aside0.mk (Kd.R_below (by (with_reducible repeat (first | apply Kd.R_alloc | apply Kd.R_drewN | apply Kd.R_drew)); exact HO107.out) hb); have n2_ := Aside0.mk (below_step (by repeat (first | (with_reducible first | exact HB.out | apply below_alloc | apply pw_below_drewN | apply below_drew1) | exact HB.out)) hb); clear HO105; clear HO107; clear HB; have HO105 := n0_; have HO107 := n1_; have HB := n2_; clear n0_ n1_ n2_; (try clear hb); (try clear hb2); (try clear hk); (try clear hi)))
          go_meet
          case rel => exact ⟨_, (true), (by first | rfl | (simp; done) | (simp [*]; done)), H', ⟨by first | omega | exact Nat.le_refl _⟩, ⟨by (with_reducible repeat (first | apply Kd.R_alloc | apply Kd.R_drewN | apply Kd.R_drew)); exact HO105.out⟩, ⟨by (with_reducible repeat (first | apply Kd.R_alloc | apply Kd.R_drewN | apply Kd.R_drew)); exact HO107.out⟩, ⟨by repeat (first | (with_reducible first | exact HB.out | apply below_alloc | apply pw_below_drewN | apply below_drew1) | exact HB.out)⟩⟩
      case rest =>
        clear HC13
        try clear c1
        try clear c2
        try clear p2
        try clear c3
        try clear c7
        try clear c7b0
        try clear c7b1
        try clear c7b2
        try clear c9
        try clear c10
        try clear c11
        try clear c12
        try clear c13
        try clear c20
        obtain ⟨kq, x30_12, rfl, HA, HJ12, HO_3, HO_4, HB⟩ := hcut
        cases kq with
        | zero => exact absurd HA.out (by simp [laws_FnTupleOrder.j0])
        | succ kj12 =>
          have H := HA.out
          clear HA
          simp only [laws_FnTupleOrder.j0] at H
          by_cases c25 : x30_12 = true
          · subst c25
            have H1 : (some true) = some r := by rw [if_pos rfl] at H; exact H
            clear H
            have H := H1
            clear H1
            obtain rfl := Option.some.inj H
            go_wp2
            go_ret
            exact ⟨by first | rfl | (simp [errW_none, errW_some] <;> rfl) | (simp [*, errW_none, errW_some] <;> rfl), by repeat (first | (with_reducible first | exact HB.out | apply below_alloc | apply pw_below_drewN | apply below_drew1) | exact HB.out)⟩
          · replace c25 := Bool.eq_false_iff.mpr c25
            subst c25
            have H1 : ((impl_TupleBytes.f kj12 t102).bind fun t112 => ((impl_TupleBytes.f kj12 t103).bind fun t115 => (if ((Op.bytesLess ((strOfNums t112).toList) ((strOfNums t115).toList)) == t108) = true then ((impl_TupleLess.f kj12 t103 t102).bind fun t118 => (if ((Op.bytesLess ((strOfNums t115).toList) ((strOfNums t112).toList)) == t118) = true then ((laws_sameTuple.f kj12 t102 t103).bind fun t119 => (some (((strOfNums t112).toList == (strOfNums t115).toList) == t119))) else (some false))) else (some false)))) = some r := by rw [if_neg (show ¬ (false = true) by decide)] at H; exact H
            clear H
            have H := H1
            clear H1
            replace H := Option.bind_eq_some_iff.mp H
            obtain ⟨t112, A260, H⟩ := H
            replace H : ((impl_TupleBytes.f kj12 t103).bind fun t115 => (if ((Op.bytesLess ((strOfNums t112).toList) ((strOfNums t115).toList)) == t108) = true then ((impl_TupleLess.f kj12 t103 t102).bind fun t118 => (if ((Op.bytesLess ((strOfNums t115).toList) ((strOfNums t112).toList)) == t118) = true then ((laws_sameTuple.f kj12 t102 t103).bind fun t119 => (some (((strOfNums t112).toList == (strOfNums t115).toList) == t119))) else (some false))) else (some false))) = some r := H
            have A26 := Aside0.mk A260
            clear A260
            replace H := Option.bind_eq_some_iff.mp H
            obtain ⟨t115, A270, H⟩ := H
            replace H : (if ((Op.bytesLess ((strOfNums t112).toList) ((strOfNums t115).toList)) == t108) = true then ((impl_TupleLess.f kj12 t103 t102).bind fun t118 => (if ((Op.bytesLess ((strOfNums t115).toList) ((strOfNums t112).toList)) == t118) = true then ((laws_sameTuple.f kj12 t102 t103).bind fun t119 => (some (((strOfNums t112).toList == (strOfNums t115).toList) == t119))) else (some false))) else (some false)) = some r := H
            have A27 := Aside0.mk A270
            clear A270
            by_cases c28 : ((Op.bytesLess ((strOfNums t112).toList) ((strOfNums t115).toList)) == t108) = true
            · rw [if_pos c28] at H
              have c28b0 : ((Op.bytesLess ((strOfNums t112).toList) ((strOfNums t115).toList)) == t108) = true := c28
              (try (have c28b1 : decide ((Op.bytesLess ((strOfNums t112).toList) ((strOfNums t115).toList)) = t108) = true := by simpa using c28))
              (try (have c28b2 : ((Op.bytesLess ((strOfNums t112).toList) ((strOfNums t115).toList)) == t108) = true := by simpa using c28))
              clear c28
              replace H := Option.bind_eq_some_iff.mp H
              obtain ⟨t118, A290, H⟩ := H
              replace H : (if ((Op.bytesLess ((strOfNums t115).toList) ((strOfNums t112).toList)) == t118) = true then ((laws_sameTuple.f kj12 t102 t103).bind fun t119 => (some (((strOfNums t112).toList == (strOfNums t115).toList) == t119))) else (some false)) = some r := H
              have A29 := Aside0.mk A290
              clear A290
              by_cases c30 : ((Op.bytesLess ((strOfNums t115).toList) ((strOfNums t112).toList)) == t118) = true
              · rw [if_pos c30] at H
                have c30b0 : ((Op.bytesLess ((strOfNums t115).toList) ((strOfNums t112).toList)) == t118) = true := c30
                (try (have c30b1 : decide ((Op.bytesLess ((strOfNums t115).toList) ((strOfNums t112).toList)) = t118) = true := by simpa using c30))
                (try (have c30b2 : ((Op.bytesLess ((strOfNums t115).toList) ((strOfNums t112).toList)) == t118) = true := by simpa using c30))
                clear c30
                replace H := Option.bind_eq_some_iff.mp H
                obtain ⟨t119, A310, H⟩ := H
                replace H : (some (((strOfNums t112).toList == (strOfNums t115).toList) == t119)) = some r := H
                have A31 := Aside0.mk A310
                clear A310
                obtain rfl := Option.some.inj H
                try go_wp2
                have n0_ := Aside0.mk (Kd.R_drew HO_3.out)
                have n1_ := Aside0.mk (Kd.R_drew HO_4.out)
                have n2_ := Aside0.mk (below_drew1 HB.out)
                clear HO_3
                clear HO_4
                clear HB
                have HO_3 := n0_
                have HO_4 := n1_
                have HB := n2_
                clear n0_ n1_ n2_
                refine start_ (n := 8) (S := fun w' => True) (ds := []) #[false, false, false, false, false, false, false, false] (by kernel_rfl) rfl rfl trivial (fun hHeld => ?_); refine with_tabW laws_FnTupleOrder.tab9 laws_FnTupleOrder.bits9 (fun HT_ HW_ => ?_)
                generalize wc.drew = w32 at HO_3 HO_4 HB hHeld ⊢
                refine pure_ (i := 0) (N := some 31) (v := ?_) (a' := ?_) #[true, false, false, false, false, false, false, false] rfl rfl (any_of HT_.out (by kernel_rfl)) (fun _ _ _ h => h) (Or.inl ⟨by rfl, ?_⟩) ?_ ?_
                rotate_left
                · intro w'
                  go_simp
                  with_reducible rfl
                rotate_left
                · simp only [Act.put, List.setIfInBounds_toArray, List.set_cons_zero, List.set_cons_succ, i64_w, i32_w]
                  rfl
                refine pure_ (i := 3) (N := some 34) (v := ?_) (a' := ?_) #[true, false, false, true, false, false, false, false] rfl rfl (any_of HT_.out (by kernel_rfl)) (fun _ _ _ h => h) (Or.inl ⟨by rfl, ?_⟩) ?_ ?_
                rotate_left
                · intro w'
                  go_simp
                  with_reducible rfl
                rotate_left
                · simp only [Act.put, List.setIfInBounds_toArray, List.set_cons_zero, List.set_cons_succ, i64_w, i32_w]
                  rfl
                refine one_ (i := 1) (N := some 32) #[true, true, false, true, false, false, false, false] rfl rfl (one_of HT_.out (by kernel_rfl)) (by decide) (fun K hK => ?_)
                refine goes_ Try.func14 (by kernel_rfl) rfl #[.slice Ao15 t102.length co15] (by rfl) rfl rfl (by (try simp only [List.map_toArray, List.map_cons, List.map_nil]); first | done | rfl | (simp only [List.length_drop, List.length_take]; rfl)) ?_
                with_reducible refine (impl_TupleBytes.calls kj12 _ _ t102 t112 _ ?side1 ?side2 A26.out).mono ?_
                (case side1 => repeat (first | exact (Kd.R_reads' HO_3.out).2.2 | (with_reducible refine Kd.C_alloc ?_ _) | (with_reducible refine Kd.C_drewN ?_ _) | (with_reducible refine Kd.C_drew ?_)))
                (case side2 => exact (Kd.R_reads' HO_3.out).2.1)
                rintro e w33 ⟨v113, rfl, ho0, hb⟩
                refine ⟨_, rfl, ?_⟩
                have n0_ := Aside0.mk (Kd.R_below (by (with_reducible repeat (first | apply Kd.R_alloc | apply Kd.R_drewN | apply Kd.R_drew)); exact HO_3.out) hb)
                have n1_ := Aside0.mk (Kd.R_below (by (with_reducible repeat (first | apply Kd.R_alloc | apply Kd.R_drewN | apply Kd.R_drew)); exact HO_4.out) hb)
                have n2_ := Aside0.mk (Kd.R_lower ho0 (below_size (by repeat (first | (with_reducible first | exact HB.out | apply below_alloc | apply pw_below_drewN | apply below_drew1) | exact HB.out))))
                have n3_ := Aside0.mk (below_step (by repeat (first | (with_reducible first | exact HB.out | apply below_alloc | apply pw_below_drewN | apply below_drew1) | exact HB.out)) hb)
                clear HO_3
                clear HO_4
                clear HB
                have HO_3 := n0_
                have HO_4 := n1_
                have HO114 := n2_
                have HB := n3_
                clear n0_ n1_ n2_ n3_
                (try clear hb)
                (try clear hb2)
                (try clear hk)
                (try clear hi)
                (try clear ho0)
                refine hK.out _ _ trivial (fun hHeld => ?_)
                clear hK K
                refine norm_ (a' := ?_) ?_ ?_
                rotate_left
                · show Act.put _ (some 32) _ = _
                  simp only [Act.put, List.setIfInBounds_toArray, List.set_cons_zero, List.set_cons_succ, i64_w, i32_w]
                  rfl
                refine join_ (σ := Value) 1 #[true, true, true, true, true, true, true, false] (fun s_ => [(33, .string (strOfNums t112)), (35, s_), (36, .string (strOfNums t115)), (6, .string (strOfNums t112))]) (fun s_ w' => (Kd.R (Kd.int .u8) 5 w' w.heap.size (fun k_ => some k_ ≠ (s_ : Value).ownBlock) v113 t112) ∧ (Kd.R (Kd.int .u8) 5 w' w.heap.size (fun k_ => some k_ ≠ (v113 : Value).ownBlock) s_ t115) ∧ (Kd.R k37 37 w' w.heap.size (fun k_ => some k_ ≠ (.slice Ao16 t103.length co16 : Value).ownBlock) (.slice Ao15 t102.length co15) t102) ∧ (Kd.R k37 37 w' w.heap.size (fun k_ => some k_ ≠ (.slice Ao15 t102.length co15 : Value).ownBlock) (.slice Ao16 t103.length co16) t103) ∧ (Below w.heap.size w w')) ?_ ?_
                rotate_left
                · intro hCont
                  refine two_ (i := 2) (j := 4) (Ni := some 33) (Nj := some 35) #[true, true, true, true, false, false, false, false] #[true, true, false, true, true, false, false, false] rfl rfl rfl rfl (two_of HT_.out (by kernel_rfl)) (by decide) (by decide) (fun K hK => ?_) (fun K hK => ?_)
                  · skip
                    have hcv34 := own_string (P := Try.prog) Try.underlying22 Try.underlying5 Try.underlying9 (Kd.own_of_R HO114.out)
                    refine value_ (w1 := ?_) (v := ?_) (by rfl) rfl ?_ ?_
                    rotate_left 2
                    · go_simp
                      constructor
                      · rfl
                      · rfl
                    clear hcv34
                    refine hK.out _ _ trivial (fun hHeld => ?_)
                    clear hK K
                    refine norm_ (a' := ?_) ?_ ?_
                    rotate_left
                    · show Act.put _ (some 33) _ = _
                      simp only [Act.put, List.setIfInBounds_toArray, List.set_cons_zero, List.set_cons_succ, i64_w, i32_w]
                      rfl
                    refine one_ (i := 4) (N := some 35) #[true, true, true, true, true, false, false, false] rfl rfl (one_of HT_.out (by kernel_rfl)) (by decide) (fun K hK => ?_)
                    refine goes_ Try.func14 (by kernel_rfl) rfl #[.slice Ao16 t103.length co16] (by rfl) rfl rfl (by (try simp only [List.map_toArray, List.map_cons, List.map_nil]); first | done | rfl | (simp only [List.length_drop, List.length_take]; rfl)) ?_
                    with_reducible refine (impl_TupleBytes.calls kj12 _ _ t103 t115 _ ?side1 ?side2 A27.out).mono ?_
                    (case side1 => repeat (first | exact (Kd.R_reads' HO_4.out).2.2 | (with_reducible refine Kd.C_alloc ?_ _) | (with_reducible refine Kd.C_drewN ?_ _) | (with_reducible refine Kd.C_drew ?_)))
                    (case side2 => exact (Kd.R_reads' HO_4.out).2.1)
                    rintro e w35 ⟨v116, rfl, ho0, hb⟩
                    refine ⟨_, rfl, ?_⟩
                    have n0_ := Aside0.mk (Kd.R_below (by (with_reducible repeat (first | apply Kd.R_alloc | apply Kd.R_drewN | apply Kd.R_drew)); exact HO_3.out) hb)
                    have n1_ := Aside0.mk (Kd.R_below (by (with_reducible repeat (first | apply Kd.R_alloc | apply Kd.R_drewN | apply Kd.R_drew)); exact HO_4.out) hb)
                    have n2_ := Aside0.mk (Kd.R_elder' (by (with_reducible repeat (first | apply Kd.R_alloc | apply Kd.R_drewN | apply Kd.R_drew)); exact HO114.out) (Kd.R_base ho0) hb)
                    have n3_ := Aside0.mk (Kd.R_lower (Kd.R_new' ho0 (Kd.R_lt (by (with_reducible repeat (first | apply Kd.R_alloc | apply Kd.R_drewN | apply Kd.R_drew)); exact HO114.out))) (below_size (by repeat (first | (with_reducible first | exact HB.out | apply below_alloc | apply pw_below_drewN | apply below_drew1) | exact HB.out))))
                    have n4_ := Aside0.mk (below_step (by repeat (first | (with_reducible first | exact HB.out | apply below_alloc | apply pw_below_drewN | apply below_drew1) | exact HB.out)) hb)
                    clear HO_3
                    clear HO_4
                    clear HO114
                    clear HB
                    have HO_3 := n0_
                    have HO_4 := n1_
                    have HO114 := n2_
                    have HO117 := n3_
                    have HB := n4_
                    clear n0_ n1_ n2_ n3_ n4_
                    (try clear hb)
                    (try clear hb2)
                    (try clear hk)
                    (try clear hi)
                    (try clear ho0)
                    refine hK.out _ _ trivial (fun hHeld => ?_)
                    clear hK K
                    refine norm_ (a' := ?_) ?_ ?_
                    rotate_left
                    · show Act.put _ (some 35) _ = _
                      simp only [Act.put, List.setIfInBounds_toArray, List.set_cons_zero, List.set_cons_succ, i64_w, i32_w]
                      rfl
                    refine pure_ (i := 6) (N := some 6) (v := ?_) (a' := ?_) #[true, true, true, true, true, false, true, false] rfl rfl (any_of HT_.out (by kernel_rfl)) (fun _ _ _ h => h) (Or.inl ⟨by rfl, ?_⟩) ?_ ?_
                    rotate_left
                    · intro w'
                      go_simp
                      with_reducible rfl
                    rotate_left
                    · simp only [Act.put, List.setIfInBounds_toArray, List.set_cons_zero, List.set_cons_succ, i64_w, i32_w]
                      rfl
                    refine one_ (i := 5) (N := some 36) #[true, true, true, true, true, true, true, false] rfl rfl (one_of HT_.out (by kernel_rfl)) (by decide) (fun K hK => ?_)
                    have hcv36 := own_string (P := Try.prog) Try.underlying22 Try.underlying5 Try.underlying9 (Kd.own_of_R HO117.out)
                    refine value_ (w1 := ?_) (v := ?_) (by rfl) rfl ?_ ?_
                    rotate_left 2
                    · go_simp
                      constructor
                      · rfl
                      · rfl
                    clear hcv36
                    refine hK.out _ _ trivial (fun hHeld => ?_)
                    clear hK K
                    refine norm_ (a' := ?_) ?_ ?_
                    rotate_left
                    · show Act.put _ (some 36) _ = _
                      simp only [Act.put, List.setIfInBounds_toArray, List.set_cons_zero, List.set_cons_succ, i64_w, i32_w]
                      rfl
                    exact norm_ (by simp only [putAll, Act.put, List.setIfInBounds_toArray, List.set_cons_zero, List.set_cons_succ]) (hCont (v116) _ ⟨(by (with_reducible repeat (first | apply Kd.R_alloc | apply Kd.R_drewN | apply Kd.R_drew)); exact Kd.R_mono HO114.out (fun _ hk => hk.2)), (by (with_reducible repeat (first | apply Kd.R_alloc | apply Kd.R_drewN | apply Kd.R_drew)); exact Kd.R_mono HO117.out (fun _ hk => hk.2)), (by (with_reducible repeat (first | apply Kd.R_alloc | apply Kd.R_drewN | apply Kd.R_drew)); exact HO_3.out), (by (with_reducible repeat (first | apply Kd.R_alloc | apply Kd.R_drewN | apply Kd.R_drew)); exact HO_4.out), (by repeat (first | (with_reducible first | exact HB.out | apply below_alloc | apply pw_below_drewN | apply below_drew1) | exact HB.out))⟩)
                  · skip
                    refine goes_ Try.func14 (by kernel_rfl) rfl #[.slice Ao16 t103.length co16] (by rfl) rfl rfl (by (try simp only [List.map_toArray, List.map_cons, List.map_nil]); first | done | rfl | (simp only [List.length_drop, List.length_take]; rfl)) ?_
                    with_reducible refine (impl_TupleBytes.calls kj12 _ _ t103 t115 _ ?side1 ?side2 A27.out).mono ?_
                    (case side1 => repeat (first | exact (Kd.R_reads' HO_4.out).2.2 | (with_reducible refine Kd.C_alloc ?_ _) | (with_reducible refine Kd.C_drewN ?_ _) | (with_reducible refine Kd.C_drew ?_)))
                    (case side2 => exact (Kd.R_reads' HO_4.out).2.1)
                    rintro e w34 ⟨v116, rfl, ho0, hb⟩
                    refine ⟨_, rfl, ?_⟩
                    have n0_ := Aside0.mk (Kd.R_below (by (with_reducible repeat (first | apply Kd.R_alloc | apply Kd.R_drewN | apply Kd.R_drew)); exact HO_3.out) hb)
                    have n1_ := Aside0.mk (Kd.R_below (by (with_reducible repeat (first | apply Kd.R_alloc | apply Kd.R_drewN | apply Kd.R_drew)); exact HO_4.out) hb)
                    have n2_ := Aside0.mk (Kd.R_elder' (by (with_reducible repeat (first | apply Kd.R_alloc | apply Kd.R_drewN | apply Kd.R_drew)); exact HO114.out) (Kd.R_base ho0) hb)
                    have n3_ := Aside0.mk (Kd.R_lower (Kd.R_new' ho0 (Kd.R_lt (by (with_reducible repeat (first | apply Kd.R_alloc | apply Kd.R_drewN | apply Kd.R_drew)); exact HO114.out))) (below_size (by repeat (first | (with_reducible first | exact HB.out | apply below_alloc | apply pw_below_drewN | apply below_drew1) | exact HB.out))))
                    have n4_ := Aside0.mk (below_step (by repeat (first | (with_reducible first | exact HB.out | apply below_alloc | apply pw_below_drewN | apply below_drew1) | exact HB.out)) hb)
                    clear HO_3
                    clear HO_4
                    clear HO114
                    clear HB
                    have HO_3 := n0_
                    have HO_4 := n1_
                    have HO114 := n2_
                    have HO117 := n3_
                    have HB := n4_
                    clear n0_ n1_ n2_ n3_ n4_
                    (try clear hb)
                    (try clear hb2)
                    (try clear hk)
                    (try clear hi)
                    (try clear ho0)
                    refine hK.out _ _ trivial (fun hHeld => ?_)
                    clear hK K
                    refine norm_ (a' := ?_) ?_ ?_
                    rotate_left
                    · show Act.put _ (some 35) _ = _
                      simp only [Act.put, List.setIfInBounds_toArray, List.set_cons_zero, List.set_cons_succ, i64_w, i32_w]
                      rfl
                    refine two_ (i := 2) (j := 5) (Ni := some 33) (Nj := some 36) #[true, true, true, true, true, false, false, false] #[true, true, false, true, true, true, false, false] rfl rfl rfl rfl (two_of HT_.out (by kernel_rfl)) (by decide) (by decide) (fun K hK => ?_) (fun K hK => ?_)
                    · skip
                      have hcv35 := own_string (P := Try.prog) Try.underlying22 Try.underlying5 Try.underlying9 (Kd.own_of_R HO114.out)
                      refine value_ (w1 := ?_) (v := ?_) (by rfl) rfl ?_ ?_
                      rotate_left 2
                      · go_simp
                        constructor
                        · rfl
                        · rfl
                      clear hcv35
                      refine hK.out _ _ trivial (fun hHeld => ?_)
                      clear hK K
                      refine norm_ (a' := ?_) ?_ ?_
                      rotate_left
                      · show Act.put _ (some 33) _ = _
                        simp only [Act.put, List.setIfInBounds_toArray, List.set_cons_zero, List.set_cons_succ, i64_w, i32_w]
                        rfl
                      refine pure_ (i := 6) (N := some 6) (v := ?_) (a' := ?_) #[true, true, true, true, true, false, true, false] rfl rfl (any_of HT_.out (by kernel_rfl)) (fun _ _ _ h => h) (Or.inl ⟨by rfl, ?_⟩) ?_ ?_
                      rotate_left
                      · intro w'
                        go_simp
                        with_reducible rfl
                      rotate_left
                      · simp only [Act.put, List.setIfInBounds_toArray, List.set_cons_zero, List.set_cons_succ, i64_w, i32_w]
                        rfl
                      refine one_ (i := 5) (N := some 36) #[true, true, true, true, true, true, true, false] rfl rfl (one_of HT_.out (by kernel_rfl)) (by decide) (fun K hK => ?_)
                      have hcv36 := own_string (P := Try.prog) Try.underlying22 Try.underlying5 Try.underlying9 (Kd.own_of_R HO117.out)
                      refine value_ (w1 := ?_) (v := ?_) (by rfl) rfl ?_ ?_
                      rotate_left 2
                      · go_simp
                        constructor
                        · rfl
                        · rfl
                      clear hcv36
                      refine hK.out _ _ trivial (fun hHeld => ?_)
                      clear hK K
                      refine norm_ (a' := ?_) ?_ ?_
                      rotate_left
                      · show Act.put _ (some 36) _ = _
                        simp only [Act.put, List.setIfInBounds_toArray, List.set_cons_zero, List.set_cons_succ, i64_w, i32_w]
                        rfl
                      exact norm_ (by simp only [putAll, Act.put, List.setIfInBounds_toArray, List.set_cons_zero, List.set_cons_succ]) (hCont (v116) _ ⟨(by (with_reducible repeat (first | apply Kd.R_alloc | apply Kd.R_drewN | apply Kd.R_drew)); exact Kd.R_mono HO114.out (fun _ hk => hk.2)), (by (with_reducible repeat (first | apply Kd.R_alloc | apply Kd.R_drewN | apply Kd.R_drew)); exact Kd.R_mono HO117.out (fun _ hk => hk.2)), (by (with_reducible repeat (first | apply Kd.R_alloc | apply Kd.R_drewN | apply Kd.R_drew)); exact HO_3.out), (by (with_reducible repeat (first | apply Kd.R_alloc | apply Kd.R_drewN | apply Kd.R_drew)); exact HO_4.out), (by repeat (first | (with_reducible first | exact HB.out | apply below_alloc | apply pw_below_drewN | apply below_drew1) | exact HB.out))⟩)
                    · skip
                      have hcv35 := own_string (P := Try.prog) Try.underlying22 Try.underlying5 Try.underlying9 (Kd.own_of_R HO117.out)
                      refine value_ (w1 := ?_) (v := ?_) (by rfl) rfl ?_ ?_
                      rotate_left 2
                      · go_simp
                        constructor
                        · rfl
                        · rfl
                      clear hcv35
                      refine hK.out _ _ trivial (fun hHeld => ?_)
                      clear hK K
                      refine norm_ (a' := ?_) ?_ ?_
                      rotate_left
                      · show Act.put _ (some 36) _ = _
                        simp only [Act.put, List.setIfInBounds_toArray, List.set_cons_zero, List.set_cons_succ, i64_w, i32_w]
                        rfl
                      refine one_ (i := 2) (N := some 33) #[true, true, true, true, true, true, false, false] rfl rfl (one_of HT_.out (by kernel_rfl)) (by decide) (fun K hK => ?_)
                      have hcv36 := own_string (P := Try.prog) Try.underlying22 Try.underlying5 Try.underlying9 (Kd.own_of_R HO114.out)
                      refine value_ (w1 := ?_) (v := ?_) (by rfl) rfl ?_ ?_
                      rotate_left 2
                      · go_simp
                        constructor
                        · rfl
                        · rfl
                      clear hcv36
                      refine hK.out _ _ trivial (fun hHeld => ?_)
                      clear hK K
                      refine norm_ (a' := ?_) ?_ ?_
                      rotate_left
                      · show Act.put _ (some 33) _ = _
                        simp only [Act.put, List.setIfInBounds_toArray, List.set_cons_zero, List.set_cons_succ, i64_w, i32_w]
                        rfl
                      refine pure_ (i := 6) (N := some 6) (v := ?_) (a' := ?_) #[true, true, true, true, true, true, true, false] rfl rfl (any_of HT_.out (by kernel_rfl)) (fun _ _ _ h => h) (Or.inl ⟨by rfl, ?_⟩) ?_ ?_
                      rotate_left
                      · intro w'
                        go_simp
                        with_reducible rfl
                      rotate_left
                      · simp only [Act.put, List.setIfInBounds_toArray, List.set_cons_zero, List.set_cons_succ, i64_w, i32_w]
                        rfl
                      exact norm_ (by simp only [putAll, Act.put, List.setIfInBounds_toArray, List.set_cons_zero, List.set_cons_succ]) (hCont (v116) _ ⟨(by (with_reducible repeat (first | apply Kd.R_alloc | apply Kd.R_drewN | apply Kd.R_drew)); exact Kd.R_mono HO114.out (fun _ hk => hk.2)), (by (with_reducible repeat (first | apply Kd.R_alloc | apply Kd.R_drewN | apply Kd.R_drew)); exact Kd.R_mono HO117.out (fun _ hk => hk.2)), (by (with_reducible repeat (first | apply Kd.R_alloc | apply Kd.R_drewN | apply Kd.R_drew)); exact HO_3.out), (by (with_reducible repeat (first | apply Kd.R_alloc | apply Kd.R_drewN | apply Kd.R_drew)); exact HO_4.out), (by repeat (first | (with_reducible first | exact HB.out | apply below_alloc | apply pw_below_drewN | apply below_drew1) | exact HB.out))⟩)
                rintro v116 w37 ⟨h0_, h1_, h2_, h3_, h4_⟩
                have n0_ : Aside0 (Kd.R (Kd.int .u8) 5 w37 w.heap.size (fun k_ => some k_ ≠ (v116 : Value).ownBlock) v113 t112) := ⟨h0_⟩
                have n1_ : Aside0 (Kd.R (Kd.int .u8) 5 w37 w.heap.size (fun k_ => some k_ ≠ (v113 : Value).ownBlock) v116 t115) := ⟨h1_⟩
                have n2_ : Aside0 (Kd.R k37 37 w37 w.heap.size (fun k_ => some k_ ≠ (.slice Ao16 t103.length co16 : Value).ownBlock) (.slice Ao15 t102.length co15) t102) := ⟨h2_⟩
                have n3_ : Aside0 (Kd.R k37 37 w37 w.heap.size (fun k_ => some k_ ≠ (.slice Ao15 t102.length co15 : Value).ownBlock) (.slice Ao16 t103.length co16) t103) := ⟨h3_⟩
                have n4_ : Aside0 (Below w.heap.size w w37) := ⟨h4_⟩
                clear HO_3
                clear HO_4
                clear HB
                clear h0_ h1_ h2_ h3_ h4_
                have HO114 := n0_
                have HO117 := n1_
                have HO_3 := n2_
                have HO_4 := n3_
                have HB := n4_
                clear n0_ n1_ n2_ n3_ n4_
                have hHeld := trivial
                refine norm_ (a' := ?_) ?_ ?_
                rotate_left
                · simp only [putAll, Act.put, List.setIfInBounds_toArray, List.set_cons_zero, List.set_cons_succ]
                  rfl
                refine pure_ (i := 7) (N := some 7) (v := ?_) (a' := ?_) #[true, true, true, true, true, true, true, true] rfl rfl (any_of HT_.out (by kernel_rfl)) (fun _ _ _ h => h) (Or.inl ⟨by rfl, ?_⟩) ?_ ?_
                rotate_left
                · intro w'
                  go_simp
                  with_reducible rfl
                rotate_left
                · simp only [Act.put, List.setIfInBounds_toArray, List.set_cons_zero, List.set_cons_succ, i64_w, i32_w]
                  rfl
                refine done_ (done_of HT_.out (by kernel_rfl)) ?_
                try go_wp2_with (first | (go_at_call 11; (with_reducible refine (impl_TupleLess.calls kj12 _ _ t103 _ _ t102 t118 _ ?side1 ?side2 ?side3 ?side4 A29.out).mono ?_); (case side1 => repeat (first | exact (Kd.R_reads' HO_4.out).2.2 | (with_reducible refine Kd.C_alloc ?_ _) | (with_reducible refine Kd.C_drewN ?_ _) | (with_reducible refine Kd.C_drew ?_))); (case side2 => exact (Kd.R_reads' HO_4.out).2.1); (case side3 => repeat (first | exact (Kd.R_reads' HO_3.out).2.2 | (with_reducible refine Kd.C_alloc ?_ _) | (with_reducible refine Kd.C_drewN ?_ _) | (with_reducible refine Kd.C_drew ?_))); (case side4 => exact (Kd.R_reads' HO_3.out).2.1); rintro e w38 ⟨rfl, hb⟩; have n0_ := Aside0.mk (Kd.R_below (by (with_reducible repeat (first | apply Kd.R_alloc | apply Kd.R_drewN | apply Kd.R_drew)); exact HO_3.out) hb); have n1_ := Aside0.mk (Kd.R_below (by (with_reducible repeat (first | apply Kd.R_alloc | apply Kd.R_drewN | apply Kd.R_drew)); exact HO_4.out) hb); have n2_ := Aside0.mk (Kd.R_below (by (with_reducible repeat (first | apply Kd.R_alloc | apply Kd.R_drewN | apply Kd.R_drew)); exact HO114.out) hb); have n3_ := Aside0.mk (Kd.R_below (by (with_reducible repeat (first | apply Kd.R_alloc | apply Kd.R_drewN | apply Kd.R_drew)); exact HO117.out) hb); have n4_ := Aside0.mk (below_step (by repeat (first | (with_reducible first | exact HB.out | apply below_alloc | apply pw_below_drewN | apply below_drew1) | exact HB.out)) hb); clear HO_3; clear HO_4; clear HO114; clear HO117; clear HB; have HO_3 := n0_; have HO_4 := n1_; have HO114 := n2_; have HO117 := n3_; have HB := n4_; clear n0_ n1_ n2_ n3_ n4_; (try clear hb); (try clear hb2); (try clear hk); (try clear hi)) | (go_at_call 15; (with_reducible refine (laws_sameTuple.calls kj12 _ _ t102 _ _ t103 t119 _ ?side1 ?side2 ?side3 ?side4 A31.out).mono ?_); (case side1 => repeat (first | exact (Kd.R_reads' HO_3.out).2.2 | (with_reducible refine Kd.C_alloc ?_ _) | (with_reducible refine Kd.C_drewN ?_ _) | (with_reducible refine Kd.C_drew ?_))); (case side2 => exact (Kd.R_reads' HO_3.out).2.1); (case side3 => repeat (first | exact (Kd.R_reads' HO_4.out).2.2 | (with_reducible refine Kd.C_alloc ?_ _) | (with_reducible refine Kd.C_drewN ?_ _) | (with_reducible refine Kd.C_drew ?_))); (case side4 => exact (Kd.R_reads' HO_4.out).2.1); rintro e w' ⟨rfl, ⟨nd, rfl⟩⟩))
                go_ret
                exact ⟨by first | rfl | (simp [errW_none, errW_some] <;> rfl) | (simp [*, errW_none, errW_some] <;> rfl), by repeat (first | (with_reducible first | exact HB.out | apply below_alloc | apply pw_below_drewN | apply below_drew1) | exact HB.out)⟩
              · rw [if_neg c30] at H
                have c30b0 : ((Op.bytesLess ((strOfNums t115).toList) ((strOfNums t112).toList)) == t118) = false := by simpa using c30
                (try (have c30b1 : decide ((Op.bytesLess ((strOfNums t115).toList) ((strOfNums t112).toList)) = t118) = false := by simpa using c30))
                (try (have c30b2 : ((Op.bytesLess ((strOfNums t115).toList) ((strOfNums t112).toList)) == t118) = false := by simpa using c30))
                (try (have c30b3 : ¬ ((Op.bytesLess ((strOfNums t115).toList) ((strOfNums t112).toList)) = t118) := by simpa using c30))
                clear c30
                obtain rfl := Option.some.inj H
                try go_wp2
                have n0_ := Aside0.mk (Kd.R_drew HO_3.out)
                have n1_ := Aside0.mk (Kd.R_drew HO_4.out)
                have n2_ := Aside0.mk (below_drew1 HB.out)
                clear HO_3
                clear HO_4
                clear HB
                have HO_3 := n0_
                have HO_4 := n1_
                have HB := n2_
                clear n0_ n1_ n2_
                refine start_ (n := 8) (S := fun w' => True) (ds := []) #[false, false, false, false, false, false, false, false] (by kernel_rfl) rfl rfl trivial (fun hHeld => ?_); refine with_tabW laws_FnTupleOrder.tab9 laws_FnTupleOrder.bits9 (fun HT_ HW_ => ?_)
                generalize wc.drew = w39 at HO_3 HO_4 HB hHeld ⊢
                refine pure_ (i := 0) (N := some 31) (v := ?_) (a' := ?_) #[true, false, false, false, false, false, false, false] rfl rfl (any_of HT_.out (by kernel_rfl)) (fun _ _ _ h => h) (Or.inl ⟨by rfl, ?_⟩) ?_ ?_
                rotate_left
                · intro w'
                  go_simp
                  with_reducible rfl
                rotate_left
                · simp only [Act.put, List.setIfInBounds_toArray, List.set_cons_zero, List.set_cons_succ, i64_w, i32_w]
                  rfl
                refine pure_ (i := 3) (N := some 34) (v := ?_) (a' := ?_) #[true, false, false, true, false, false, false, false] rfl rfl (any_of HT_.out (by kernel_rfl)) (fun _ _ _ h => h) (Or.inl ⟨by rfl, ?_⟩) ?_ ?_
                rotate_left
                · intro w'
                  go_simp
                  with_reducible rfl
                rotate_left
                · simp only [Act.put, List.setIfInBounds_toArray, List.set_cons_zero, List.set_cons_succ, i64_w, i32_w]
                  rfl
                refine one_ (i := 1) (N := some 32) #[true, true, false, true, false, false, false, false] rfl rfl (one_of HT_.out (by kernel_rfl)) (by decide) (fun K hK => ?_)
                refine goes_ Try.func14 (by kernel_rfl) rfl #[.slice Ao15 t102.length co15] (by rfl) rfl rfl (by (try simp only [List.map_toArray, List.map_cons, List.map_nil]); first | done | rfl | (simp only [List.length_drop, List.length_take]; rfl)) ?_
                with_reducible refine (impl_TupleBytes.calls kj12 _ _ t102 t112 _ ?side1 ?side2 A26.out).mono ?_
                (case side1 => repeat (first | exact (Kd.R_reads' HO_3.out).2.2 | (with_reducible refine Kd.C_alloc ?_ _) | (with_reducible refine Kd.C_drewN ?_ _) | (with_reducible refine Kd.C_drew ?_)))
                (case side2 => exact (Kd.R_reads' HO_3.out).2.1)
                rintro e w40 ⟨v113, rfl, ho0, hb⟩
                refine ⟨_, rfl, ?_⟩
                have n0_ := Aside0.mk (Kd.R_below (by (with_reducible repeat (first | apply Kd.R_alloc | apply Kd.R_drewN | apply Kd.R_drew)); exact HO_3.out) hb)
                have n1_ := Aside0.mk (Kd.R_below (by (with_reducible repeat (first | apply Kd.R_alloc | apply Kd.R_drewN | apply Kd.R_drew)); exact HO_4.out) hb)
                have n2_ := Aside0.mk (Kd.R_lower ho0 (below_size (by repeat (first | (with_reducible first | exact HB.out | apply below_alloc | apply pw_below_drewN | apply below_drew1) | exact HB.out))))
                have n3_ := Aside0.mk (below_step (by repeat (first | (with_reducible first | exact HB.out | apply below_alloc | apply pw_below_drewN | apply below_drew1) | exact HB.out)) hb)
                clear HO_3
                clear HO_4
                clear HB
                have HO_3 := n0_
                have HO_4 := n1_
                have HO114 := n2_
                have HB := n3_
                clear n0_ n1_ n2_ n3_
                (try clear hb)
                (try clear hb2)
                (try clear hk)
                (try clear hi)
                (try clear ho0)
                refine hK.out _ _ trivial (fun hHeld => ?_)
                clear hK K
                refine norm_ (a' := ?_) ?_ ?_
                rotate_left
                · show Act.put _ (some 32) _ = _
                  simp only [Act.put, List.setIfInBounds_toArray, List.set_cons_zero, List.set_cons_succ, i64_w, i32_w]
                  rfl
                refine join_ (σ := Value) 1 #[true, true, true, true, true, true, true, false] (fun s_ => [(33, .string (strOfNums t112)), (35, s_), (36, .string (strOfNums t115)), (6, .string (strOfNums t112))]) (fun s_ w' => (Kd.R (Kd.int .u8) 5 w' w.heap.size (fun k_ => some k_ ≠ (s_ : Value).ownBlock) v113 t112) ∧ (Kd.R (Kd.int .u8) 5 w' w.heap.size (fun k_ => some k_ ≠ (v113 : Value).ownBlock) s_ t115) ∧ (Kd.R k37 37 w' w.heap.size (fun k_ => some k_ ≠ (.slice Ao16 t103.length co16 : Value).ownBlock) (.slice Ao15 t102.length co15) t102) ∧ (Kd.R k37 37 w' w.heap.size (fun k_ => some k_ ≠ (.slice Ao15 t102.length co15 : Value).ownBlock) (.slice Ao16 t103.length co16) t103) ∧ (Below w.heap.size w w')) ?_ ?_
                rotate_left
                · intro hCont
                  refine two_ (i := 2) (j := 4) (Ni := some 33) (Nj := some 35) #[true, true, true, true, false, false, false, false] #[true, true, false, true, true, false, false, false] rfl rfl rfl rfl (two_of HT_.out (by kernel_rfl)) (by decide) (by decide) (fun K hK => ?_) (fun K hK => ?_)
                  · skip
                    have hcv41 := own_string (P := Try.prog) Try.underlying22 Try.underlying5 Try.underlying9 (Kd.own_of_R HO114.out)
                    refine value_ (w1 := ?_) (v := ?_) (by rfl) rfl ?_ ?_
                    rotate_left 2
                    · go_simp
                      constructor
                      · rfl
                      · rfl
                    clear hcv41
                    refine hK.out _ _ trivial (fun hHeld => ?_)
                    clear hK K
                    refine norm_ (a' := ?_) ?_ ?_
                    rotate_left
                    · show Act.put _ (some 33) _ = _
                      simp only [Act.put, List.setIfInBounds_toArray, List.set_cons_zero, List.set_cons_succ, i64_w, i32_w]
                      rfl
                    refine one_ (i := 4) (N := some 35) #[true, true, true, true, true, false, false, false] rfl rfl (one_of HT_.out (by kernel_rfl)) (by decide) (fun K hK => ?_)
                    refine goes_ Try.func14 (by kernel_rfl) rfl #[.slice Ao16 t103.length co16] (by rfl) rfl rfl (by (try simp only [List.map_toArray, List.map_cons, List.map_nil]); first | done | rfl | (simp only [List.length_drop, List.length_take]; rfl)) ?_
                    with_reducible refine (impl_TupleBytes.calls kj12 _ _ t103 t115 _ ?side1 ?side2 A27.out).mono ?_
                    (case side1 => repeat (first | exact (Kd.R_reads' HO_4.out).2.2 | (with_reducible refine Kd.C_alloc ?_ _) | (with_reducible refine Kd.C_drewN ?_ _) | (with_reducible refine Kd.C_drew ?_)))
                    (case side2 => exact (Kd.R_reads' HO_4.out).2.1)
                    rintro e w42 ⟨v116, rfl, ho0, hb⟩
                    refine ⟨_, rfl, ?_⟩
                    have n0_ := Aside0.mk (Kd.R_below (by (with_reducible repeat (first | apply Kd.R_alloc | apply Kd.R_drewN | apply Kd.R_drew)); exact HO_3.out) hb)
                    have n1_ := Aside0.mk (Kd.R_below (by (with_reducible repeat (first | apply Kd.R_alloc | apply Kd.R_drewN | apply Kd.R_drew)); exact HO_4.out) hb)
                    have n2_ := Aside0.mk (Kd.R_elder' (by (with_reducible repeat (first | apply Kd.R_alloc | apply Kd.R_drewN | apply Kd.R_drew)); exact HO114.out) (Kd.R_base ho0) hb)
                    have n3_ := Aside0.mk (Kd.R_lower (Kd.R_new' ho0 (Kd.R_lt (by (with_reducible repeat (first | apply Kd.R_alloc | apply Kd.R_drewN | apply Kd.R_drew)); exact HO114.out))) (below_size (by repeat (first | (with_reducible first | exact HB.out | apply below_alloc | apply pw_below_drewN | apply below_drew1) | exact HB.out))))
                    have n4_ := Aside0.mk (below_step (by repeat (first | (with_reducible first | exact HB.out | apply below_alloc | apply pw_below_drewN | apply below_drew1) | exact HB.out)) hb)
                    clear HO_3
                    clear HO_4
                    clear HO114
                    clear HB
                    have HO_3 := n0_
                    have HO_4 := n1_
                    have HO114 := n2_
                    have HO117 := n3_
                    have HB := n4_
                    clear n0_ n1_ n2_ n3_ n4_
                    (try clear hb)
                    (try clear hb2)
                    (try clear hk)
                    (try clear hi)
                    (try clear ho0)
                    refine hK.out _ _ trivial (fun hHeld => ?_)
                    clear hK K
                    refine norm_ (a' := ?_) ?_ ?_
                    rotate_left
                    · show Act.put _ (some 35) _ = _
                      simp only [Act.put, List.setIfInBounds_toArray, List.set_cons_zero, List.set_cons_succ, i64_w, i32_w]
                      rfl
                    refine pure_ (i := 6) (N := some 6) (v := ?_) (a' := ?_) #[true, true, true, true, true, false, true, false] rfl rfl (any_of HT_.out (by kernel_rfl)) (fun _ _ _ h => h) (Or.inl ⟨by rfl, ?_⟩) ?_ ?_
                    rotate_left
                    · intro w'
                      go_simp
                      with_reducible rfl
                    rotate_left
                    · simp only [Act.put, List.setIfInBounds_toArray, List.set_cons_zero, List.set_cons_succ, i64_w, i32_w]
                      rfl
                    refine one_ (i := 5) (N := some 36) #[true, true, true, true, true, true, true, false] rfl rfl (one_of HT_.out (by kernel_rfl)) (by decide) (fun K hK => ?_)
                    have hcv43 := own_string (P := Try.prog) Try.underlying22 Try.underlying5 Try.underlying9 (Kd.own_of_R HO117.out)
                    refine value_ (w1 := ?_) (v := ?_) (by rfl) rfl ?_ ?_
                    rotate_left 2
                    · go_simp
                      constructor
                      · rfl
                      · rfl
                    clear hcv43
                    refine hK.out _ _ trivial (fun hHeld => ?_)
                    clear hK K
                    refine norm_ (a' := ?_) ?_ ?_
                    rotate_left
                    · show Act.put _ (some 36) _ = _
                      simp only [Act.put, List.setIfInBounds_toArray, List.set_cons_zero, List.set_cons_succ, i64_w, i32_w]
                      rfl
                    exact norm_ (by simp only [putAll, Act.put, List.setIfInBounds_toArray, List.set_cons_zero, List.set_cons_succ]) (hCont (v116) _ ⟨(by (with_reducible repeat (first | apply Kd.R_alloc | apply Kd.R_drewN | apply Kd.R_drew)); exact Kd.R_mono HO114.out (fun _ hk => hk.2)), (by (with_reducible repeat (first | apply Kd.R_alloc | apply Kd.R_drewN | apply Kd.R_drew)); exact Kd.R_mono HO117.out (fun _ hk => hk.2)), (by (with_reducible repeat (first | apply Kd.R_alloc | apply Kd.R_drewN | apply Kd.R_drew)); exact HO_3.out), (by (with_reducible repeat (first | apply Kd.R_alloc | apply Kd.R_drewN | apply Kd.R_drew)); exact HO_4.out), (by repeat (first | (with_reducible first | exact HB.out | apply below_alloc | apply pw_below_drewN | apply below_drew1) | exact HB.out))⟩)
                  · skip
                    refine goes_ Try.func14 (by kernel_rfl) rfl #[.slice Ao16 t103.length co16] (by rfl) rfl rfl (by (try simp only [List.map_toArray, List.map_cons, List.map_nil]); first | done | rfl | (simp only [List.length_drop, List.length_take]; rfl)) ?_
                    with_reducible refine (impl_TupleBytes.calls kj12 _ _ t103 t115 _ ?side1 ?side2 A27.out).mono ?_
                    (case side1 => repeat (first | exact (Kd.R_reads' HO_4.out).2.2 | (with_reducible refine Kd.C_alloc ?_ _) | (with_reducible refine Kd.C_drewN ?_ _) | (with_reducible refine Kd.C_drew ?_)))
                    (case side2 => exact (Kd.R_reads' HO_4.out).2.1)
                    rintro e w41 ⟨v116, rfl, ho0, hb⟩
                    refine ⟨_, rfl, ?_⟩
                    have n0_ := Aside0.mk (Kd.R_below (by (with_reducible repeat (first | apply Kd.R_alloc | apply Kd.R_drewN | apply Kd.R_drew)); exact HO_3.out) hb)
                    have n1_ := Aside0.mk (Kd.R_below (by (with_reducible repeat (first | apply Kd.R_alloc | apply Kd.R_drewN | apply Kd.R_drew)); exact HO_4.out) hb)
                    have n2_ := Aside0.mk (Kd.R_elder' (by (with_reducible repeat (first | apply Kd.R_alloc | apply Kd.R_drewN | apply Kd.R_drew)); exact HO114.out) (Kd.R_base ho0) hb)
                    have n3_ := Aside0.mk (Kd.R_lower (Kd.R_new' ho0 (Kd.R_lt (by (with_reducible repeat (first | apply Kd.R_alloc | apply Kd.R_drewN | apply Kd.R_drew)); exact HO114.out))) (below_size (by repeat (first | (with_reducible first | exact HB.out | apply below_alloc | apply pw_below_drewN | apply below_drew1) | exact HB.out))))
                    have n4_ := Aside0.mk (below_step (by repeat (first | (with_reducible first | exact HB.out | apply below_alloc | apply pw_below_drewN | apply below_drew1) | exact HB.out)) hb)
                    clear HO_3
                    clear HO_4
                    clear HO114
                    clear HB
                    have HO_3 := n0_
                    have HO_4 := n1_
                    have HO114 := n2_
                    have HO117 := n3_
                    have HB := n4_
                    clear n0_ n1_ n2_ n3_ n4_
                    (try clear hb)
                    (try clear hb2)
                    (try clear hk)
                    (try clear hi)
                    (try clear ho0)
                    refine hK.out _ _ trivial (fun hHeld => ?_)
                    clear hK K
                    refine norm_ (a' := ?_) ?_ ?_
                    rotate_left
                    · show Act.put _ (some 35) _ = _
                      simp only [Act.put, List.setIfInBounds_toArray, List.set_cons_zero, List.set_cons_succ, i64_w, i32_w]
                      rfl
                    refine two_ (i := 2) (j := 5) (Ni := some 33) (Nj := some 36) #[true, true, true, true, true, false, false, false] #[true, true, false, true, true, true, false, false] rfl rfl rfl rfl (two_of HT_.out (by kernel_rfl)) (by decide) (by decide) (fun K hK => ?_) (fun K hK => ?_)
                    · skip
                      have hcv42 := own_string (P := Try.prog) Try.underlying22 Try.underlying5 Try.underlying9 (Kd.own_of_R HO114.out)
                      refine value_ (w1 := ?_) (v := ?_) (by rfl) rfl ?_ ?_
                      rotate_left 2
                      · go_simp
                        constructor
                        · rfl
                        · rfl
                      clear hcv42
                      refine hK.out _ _ trivial (fun hHeld => ?_)
                      clear hK K
                      refine norm_ (a' := ?_) ?_ ?_
                      rotate_left
                      · show Act.put _ (some 33) _ = _
                        simp only [Act.put, List.setIfInBounds_toArray, List.set_cons_zero, List.set_cons_succ, i64_w, i32_w]
                        rfl
                      refine pure_ (i := 6) (N := some 6) (v := ?_) (a' := ?_) #[true, true, true, true, true, false, true, false] rfl rfl (any_of HT_.out (by kernel_rfl)) (fun _ _ _ h => h) (Or.inl ⟨by rfl, ?_⟩) ?_ ?_
                      rotate_left
                      · intro w'
                        go_simp
                        with_reducible rfl
                      rotate_left
                      · simp only [Act.put, List.setIfInBounds_toArray, List.set_cons_zero, List.set_cons_succ, i64_w, i32_w]
                        rfl
                      refine one_ (i := 5) (N := some 36) #[true, true, true, true, true, true, true, false] rfl rfl (one_of HT_.out (by kernel_rfl)) (by decide) (fun K hK => ?_)
                      have hcv43 := own_string (P := Try.prog) Try.underlying22 Try.underlying5 Try.underlying9 (Kd.own_of_R HO117.out)
                      refine value_ (w1 := ?_) (v := ?_) (by rfl) rfl ?_ ?_
                      rotate_left 2
                      · go_simp
                        constructor
                        · rfl
                        · rfl
                      clear hcv43
                      refine hK.out _ _ trivial (fun hHeld => ?_)
                      clear hK K
                      refine norm_ (a' := ?_) ?_ ?_
                      rotate_left
                      · show Act.put _ (some 36) _ = _
                        simp only [Act.put, List.setIfInBounds_toArray, List.set_cons_zero, List.set_cons_succ, i64_w, i32_w]
                        rfl
                      exact norm_ (by simp only [putAll, Act.put, List.setIfInBounds_toArray, List.set_cons_zero, List.set_cons_succ]) (hCont (v116) _ ⟨(by (with_reducible repeat (first | apply Kd.R_alloc | apply Kd.R_drewN | apply Kd.R_drew)); exact Kd.R_mono HO114.out (fun _ hk => hk.2)), (by (with_reducible repeat (first | apply Kd.R_alloc | apply Kd.R_drewN | apply Kd.R_drew)); exact Kd.R_mono HO117.out (fun _ hk => hk.2)), (by (with_reducible repeat (first | apply Kd.R_alloc | apply Kd.R_drewN | apply Kd.R_drew)); exact HO_3.out), (by (with_reducible repeat (first | apply Kd.R_alloc | apply Kd.R_drewN | apply Kd.R_drew)); exact HO_4.out), (by repeat (first | (with_reducible first | exact HB.out | apply below_alloc | apply pw_below_drewN | apply below_drew1) | exact HB.out))⟩)
                    · skip
                      have hcv42 := own_string (P := Try.prog) Try.underlying22 Try.underlying5 Try.underlying9 (Kd.own_of_R HO117.out)
                      refine value_ (w1 := ?_) (v := ?_) (by rfl) rfl ?_ ?_
                      rotate_left 2
                      · go_simp
                        constructor
                        · rfl
                        · rfl
                      clear hcv42
                      refine hK.out _ _ trivial (fun hHeld => ?_)
                      clear hK K
                      refine norm_ (a' := ?_) ?_ ?_
                      rotate_left
                      · show Act.put _ (some 36) _ = _
                        simp only [Act.put, List.setIfInBounds_toArray, List.set_cons_zero, List.set_cons_succ, i64_w, i32_w]
                        rfl
                      refine one_ (i := 2) (N := some 33) #[true, true, true, true, true, true, false, false] rfl rfl (one_of HT_.out (by kernel_rfl)) (by decide) (fun K hK => ?_)
                      have hcv43 := own_string (P := Try.prog) Try.underlying22 Try.underlying5 Try.underlying9 (Kd.own_of_R HO114.out)
                      refine value_ (w1 := ?_) (v := ?_) (by rfl) rfl ?_ ?_
                      rotate_left 2
                      · go_simp
                        constructor
                        · rfl
                        · rfl
                      clear hcv43
                      refine hK.out _ _ trivial (fun hHeld => ?_)
                      clear hK K
                      refine norm_ (a' := ?_) ?_ ?_
                      rotate_left
                      · show Act.put _ (some 33) _ = _
                        simp only [Act.put, List.setIfInBounds_toArray, List.set_cons_zero, List.set_cons_succ, i64_w, i32_w]
                        rfl
                      refine pure_ (i := 6) (N := some 6) (v := ?_) (a' := ?_) #[true, true, true, true, true, true, true, false] rfl rfl (any_of HT_.out (by kernel_rfl)) (fun _ _ _ h => h) (Or.inl ⟨by rfl, ?_⟩) ?_ ?_
                      rotate_left
                      · intro w'
                        go_simp
                        with_reducible rfl
                      rotate_left
                      · simp only [Act.put, List.setIfInBounds_toArray, List.set_cons_zero, List.set_cons_succ, i64_w, i32_w]
                        rfl
                      exact norm_ (by simp only [putAll, Act.put, List.setIfInBounds_toArray, List.set_cons_zero, List.set_cons_succ]) (hCont (v116) _ ⟨(by (with_reducible repeat (first | apply Kd.R_alloc | apply Kd.R_drewN | apply Kd.R_drew)); exact Kd.R_mono HO114.out (fun _ hk => hk.2)), (by (with_reducible repeat (first | apply Kd.R_alloc | apply Kd.R_drewN | apply Kd.R_drew)); exact Kd.R_mono HO117.out (fun _ hk => hk.2)), (by (with_reducible repeat (first | apply Kd.R_alloc | apply Kd.R_drewN | apply Kd.R_drew)); exact HO_3.out), (by (with_reducible repeat (first | apply Kd.R_alloc | apply Kd.R_drewN | apply Kd.R_drew)); exact HO_4.out), (by repeat (first | (with_reducible first | exact HB.out | apply below_alloc | apply pw_below_drewN | apply below_drew1) | exact HB.out))⟩)
                rintro v116 w44 ⟨h0_, h1_, h2_, h3_, h4_⟩
                have n0_ : Aside0 (Kd.R (Kd.int .u8) 5 w44 w.heap.size (fun k_ => some k_ ≠ (v116 : Value).ownBlock) v113 t112) := ⟨h0_⟩
                have n1_ : Aside0 (Kd.R (Kd.int .u8) 5 w44 w.heap.size (fun k_ => some k_ ≠ (v113 : Value).ownBlock) v116 t115) := ⟨h1_⟩
                have n2_ : Aside0 (Kd.R k37 37 w44 w.heap.size (fun k_ => some k_ ≠ (.slice Ao16 t103.length co16 : Value).ownBlock) (.slice Ao15 t102.length co15) t102) := ⟨h2_⟩
                have n3_ : Aside0 (Kd.R k37 37 w44 w.heap.size (fun k_ => some k_ ≠ (.slice Ao15 t102.length co15 : Value).ownBlock) (.slice Ao16 t103.length co16) t103) := ⟨h3_⟩
                have n4_ : Aside0 (Below w.heap.size w w44) := ⟨h4_⟩
                clear HO_3
                clear HO_4
                clear HB
                clear h0_ h1_ h2_ h3_ h4_
                have HO114 := n0_
                have HO117 := n1_
                have HO_3 := n2_
                have HO_4 := n3_
                have HB := n4_
                clear n0_ n1_ n2_ n3_ n4_
                have hHeld := trivial
                refine norm_ (a' := ?_) ?_ ?_
                rotate_left
                · simp only [putAll, Act.put, List.setIfInBounds_toArray, List.set_cons_zero, List.set_cons_succ]
                  rfl
                refine pure_ (i := 7) (N := some 7) (v := ?_) (a' := ?_) #[true, true, true, true, true, true, true, true] rfl rfl (any_of HT_.out (by kernel_rfl)) (fun _ _ _ h => h) (Or.inl ⟨by rfl, ?_⟩) ?_ ?_
                rotate_left
                · intro w'
                  go_simp
                  with_reducible rfl
                rotate_left
                · simp only [Act.put, List.setIfInBounds_toArray, List.set_cons_zero, List.set_cons_succ, i64_w, i32_w]
                  rfl
                refine done_ (done_of HT_.out (by kernel_rfl)) ?_
                try go_wp2_with (first | (go_at_call 11; (with_reducible refine (impl_TupleLess.calls kj12 _ _ t103 _ _ t102 t118 _ ?side1 ?side2 ?side3 ?side4 A29.out).mono ?_); (case side1 => repeat (first | exact (Kd.R_reads' HO_4.out).2.2 | (with_reducible refine Kd.C_alloc ?_ _) | (with_reducible refine Kd.C_drewN ?_ _) | (with_reducible refine Kd.C_drew ?_))); (case side2 => exact (Kd.R_reads' HO_4.out).2.1); (case side3 => repeat (first | exact (Kd.R_reads' HO_3.out).2.2 | (with_reducible refine Kd.C_alloc ?_ _) | (with_reducible refine Kd.C_drewN ?_ _) | (with_reducible refine Kd.C_drew ?_))); (case side4 => exact (Kd.R_reads' HO_3.out).2.1); rintro e w45 ⟨rfl, hb⟩; have n0_ := Aside0.mk (Kd.R_below (by (with_reducible repeat (first | apply Kd.R_alloc | apply Kd.R_drewN | apply Kd.R_drew)); exact HO_3.out) hb); have n1_ := Aside0.mk (Kd.R_below (by (with_reducible repeat (first | apply Kd.R_alloc | apply Kd.R_drewN | apply Kd.R_drew)); exact HO_4.out) hb); have n2_ := Aside0.mk (Kd.R_below (by (with_reducible repeat (first | apply Kd.R_alloc | apply Kd.R_drewN | apply Kd.R_drew)); exact HO114.out) hb); have n3_ := Aside0.mk (Kd.R_below (by (with_reducible repeat (first | apply Kd.R_alloc | apply Kd.R_drewN | apply Kd.R_drew)); exact HO117.out) hb); have n4_ := Aside0.mk (below_step (by repeat (first | (with_reducible first | exact HB.out | apply below_alloc | apply pw_below_drewN | apply below_drew1) | exact HB.out)) hb); clear HO_3; clear HO_4; clear HO114; clear HO117; clear HB; have HO_3 := n0_; have HO_4 := n1_; have HO114 := n2_; have HO117 := n3_; have HB := n4_; clear n0_ n1_ n2_ n3_ n4_; (try clear hb); (try clear hb2); (try clear hk); (try clear hi)))
                go_ret
                exact ⟨by first | rfl | (simp [errW_none, errW_some] <;> rfl) | (simp [*, errW_none, errW_some] <;> rfl), by repeat (first | (with_reducible first | exact HB.out | apply below_alloc | apply pw_below_drewN | apply below_drew1) | exact HB.out)⟩
            · rw [if_neg c28] at H
              have c28b0 : ((Op.bytesLess ((strOfNums t112).toList) ((strOfNums t115).toList)) == t108) = false := by simpa using c28
              (try (have c28b1 : decide ((Op.bytesLess ((strOfNums t112).toList) ((strOfNums t115).toList)) = t108) = false := by simpa using c28))
              (try (have c28b2 : ((Op.bytesLess ((strOfNums t112).toList) ((strOfNums t115).toList)) == t108) = false := by simpa using c28))
              (try (have c28b3 : ¬ ((Op.bytesLess ((strOfNums t112).toList) ((strOfNums t115).toList)) = t108) := by simpa using c28))
              clear c28
              obtain rfl := Option.some.inj H
              try go_wp2
              have n0_ := Aside0.mk (Kd.R_drew HO_3.out)
              have n1_ := Aside0.mk (Kd.R_drew HO_4.out)
              have n2_ := Aside0.mk (below_drew1 HB.out)
              clear HO_3
              clear HO_4
              clear HB
              have HO_3 := n0_
              have HO_4 := n1_
              have HB := n2_
              clear n0_ n1_ n2_
              refine start_ (n := 8) (S := fun w' => True) (ds := []) #[false, false, false, false, false, false, false, false] (by kernel_rfl) rfl rfl trivial (fun hHeld => ?_); refine with_tabW laws_FnTupleOrder.tab9 laws_FnTupleOrder.bits9 (fun HT_ HW_ => ?_)
              generalize wc.drew = w46 at HO_3 HO_4 HB hHeld ⊢
              refine pure_ (i := 0) (N := some 31) (v := ?_) (a' := ?_) #[true, false, false, false, false, false, false, false] rfl rfl (any_of HT_.out (by kernel_rfl)) (fun _ _ _ h => h) (Or.inl ⟨by rfl, ?_⟩) ?_ ?_
              rotate_left
              · intro w'
                go_simp
                with_reducible rfl
              rotate_left
              · simp only [Act.put, List.setIfInBounds_toArray, List.set_cons_zero, List.set_cons_succ, i64_w, i32_w]
                rfl
              refine pure_ (i := 3) (N := some 34) (v := ?_) (a' := ?_) #[true, false, false, true, false, false, false, false] rfl rfl (any_of HT_.out (by kernel_rfl)) (fun _ _ _ h => h) (Or.inl ⟨by rfl, ?_⟩) ?_ ?_
              rotate_left
              · intro w'
                go_simp
                with_reducible rfl
              rotate_left
              · simp only [Act.put, List.setIfInBounds_toArray, List.set_cons_zero, List.set_cons_succ, i64_w, i32_w]
                rfl
              refine one_ (i := 1) (N := some 32) #[true, true, false, true, false, false, false, false] rfl rfl (one_of HT_.out (by kernel_rfl)) (by decide) (fun K hK => ?_)
              refine goes_ Try.func14 (by kernel_rfl) rfl #[.slice Ao15 t102.length co15] (by rfl) rfl rfl (by (try simp only [List.map_toArray, List.map_cons, List.map_nil]); first | done | rfl | (simp only [List.length_drop, List.length_take]; rfl)) ?_
              with_reducible refine (impl_TupleBytes.calls kj12 _ _ t102 t112 _ ?side1 ?side2 A26.out).mono ?_
              (case side1 => repeat (first | exact (Kd.R_reads' HO_3.out).2.2 | (with_reducible refine Kd.C_alloc ?_ _) | (with_reducible refine Kd.C_drewN ?_ _) | (with_reducible refine Kd.C_drew ?_)))
              (case side2 => exact (Kd.R_reads' HO_3.out).2.1)
              rintro e w47 ⟨v113, rfl, ho0, hb⟩
              refine ⟨_, rfl, ?_⟩
              have n0_ := Aside0.mk (Kd.R_below (by (with_reducible repeat (first | apply Kd.R_alloc | apply Kd.R_drewN | apply Kd.R_drew)); exact HO_3.out) hb)
              have n1_ := Aside0.mk (Kd.R_below (by (with_reducible repeat (first | apply Kd.R_alloc | apply Kd.R_drewN | apply Kd.R_drew)); exact HO_4.out) hb)
              have n2_ := Aside0.mk (Kd.R_lower ho0 (below_size (by repeat (first | (with_reducible first | exact HB.out | apply below_alloc | apply pw_below_drewN | apply below_drew1) | exact HB.out))))
              have n3_ := Aside0.mk (below_step (by repeat (first | (with_reducible first | exact HB.out | apply below_alloc | apply pw_below_drewN | apply below_drew1) | exact HB.out)) hb)
              clear HO_3
              clear HO_4
              clear HB
              have HO_3 := n0_
              have HO_4 := n1_
              have HO114 := n2_
              have HB := n3_
              clear n0_ n1_ n2_ n3_
              (try clear hb)
              (try clear hb2)
              (try clear hk)
              (try clear hi)
              (try clear ho0)
              refine hK.out _ _ trivial (fun hHeld => ?_)
              clear hK K
              refine norm_ (a' := ?_) ?_ ?_
              rotate_left
              · show Act.put _ (some 32) _ = _
                simp only [Act.put, List.setIfInBounds_toArray, List.set_cons_zero, List.set_cons_succ, i64_w, i32_w]
                rfl
              refine join_ (σ := Value) 1 #[true, true, true, true, true, true, true, false] (fun s_ => [(33, .string (strOfNums t112)), (35, s_), (36, .string (strOfNums t115)), (6, .string (strOfNums t112))]) (fun s_ w' => (Kd.R (Kd.int .u8) 5 w' w.heap.size (fun k_ => some k_ ≠ (s_ : Value).ownBlock) v113 t112) ∧ (Kd.R (Kd.int .u8) 5 w' w.heap.size (fun k_ => some k_ ≠ (v113 : Value).ownBlock) s_ t115) ∧ (Kd.R k37 37 w' w.heap.size (fun k_ => some k_ ≠ (.slice Ao16 t103.length co16 : Value).ownBlock) (.slice Ao15 t102.length co15) t102) ∧ (Kd.R k37 37 w' w.heap.size (fun k_ => some k_ ≠ (.slice Ao15 t102.length co15 : Value).ownBlock) (.slice Ao16 t103.length co16) t103) ∧ (Below w.heap.size w w')) ?_ ?_
              rotate_left
              · intro hCont
                refine two_ (i := 2) (j := 4) (Ni := some 33) (Nj := some 35) #[true, true, true, true, false, false, false, false] #[true, true, false, true, true, false, false, false] rfl rfl rfl rfl (two_of HT_.out (by kernel_rfl)) (by decide) (by decide) (fun K hK => ?_) (fun K hK => ?_)
                · skip
                  have hcv48 := own_string (P := Try.prog) Try.underlying22 Try.underlying5 Try.underlying9 (Kd.own_of_R HO114.out)
                  refine value_ (w1 := ?_) (v := ?_) (by rfl) rfl ?_ ?_
                  rotate_left 2
                  · go_simp
                    constructor
                    · rfl
                    · rfl
                  clear hcv48
                  refine hK.out _ _ trivial (fun hHeld => ?_)
                  clear hK K
                  refine norm_ (a' := ?_) ?_ ?_
                  rotate_left
                  · show Act.put _ (some 33) _ = _
                    simp only [Act.put, List.setIfInBounds_toArray, List.set_cons_zero, List.set_cons_succ, i64_w, i32_w]
                    rfl
                  refine one_ (i := 4) (N := some 35) #[true, true, true, true, true, false, false, false] rfl rfl (one_of HT_.out (by kernel_rfl)) (by decide) (fun K hK => ?_)
                  refine goes_ Try.func14 (by kernel_rfl) rfl #[.slice Ao16 t103.length co16] (by rfl) rfl rfl (by (try simp only [List.map_toArray, List.map_cons, List.map_nil]); first | done | rfl | (simp only [List.length_drop, List.length_take]; rfl)) ?_
                  with_reducible refine (impl_TupleBytes.calls kj12 _ _ t103 t115 _ ?side1 ?side2 A27.out).mono ?_
                  (case side1 => repeat (first | exact (Kd.R_reads' HO_4.out).2.2 | (with_reducible refine Kd.C_alloc ?_ _) | (with_reducible refine Kd.C_drewN ?_ _) | (with_reducible refine Kd.C_drew ?_)))
                  (case side2 => exact (Kd.R_reads' HO_4.out).2.1)
                  rintro e w49 ⟨v116, rfl, ho0, hb⟩
                  refine ⟨_, rfl, ?_⟩
                  have n0_ := Aside0.mk (Kd.R_below (by (with_reducible repeat (first | apply Kd.R_alloc | apply Kd.R_drewN | apply Kd.R_drew)); exact HO_3.out) hb)
                  have n1_ := Aside0.mk (Kd.R_below (by (with_reducible repeat (first | apply Kd.R_alloc | apply Kd.R_drewN | apply Kd.R_drew)); exact HO_4.out) hb)
                  have n2_ := Aside0.mk (Kd.R_elder' (by (with_reducible repeat (first | apply Kd.R_alloc | apply Kd.R_drewN | apply Kd.R_drew)); exact HO114.out) (Kd.R_base ho0) hb)
                  have n3_ := Aside0.mk (Kd.R_lower (Kd.R_new' ho0 (Kd.R_lt (by (with_reducible repeat (first | apply Kd.R_alloc | apply Kd.R_drewN | apply Kd.R_drew)); exact HO114.out))) (below_size (by repeat (first | (with_reducible first | exact HB.out | apply below_alloc | apply pw_below_drewN | apply below_drew1) | exact HB.out))))
                  have n4_ := Aside0.mk (below_step (by repeat (first | (with_reducible first | exact HB.out | apply below_alloc | apply pw_below_drewN | apply below_drew1) | exact HB.out)) hb)
                  clear HO_3
                  clear HO_4
                  clear HO114
                  clear HB
                  have HO_3 := n0_
                  have HO_4 := n1_
                  have HO114 := n2_
                  have HO117 := n3_
                  have HB := n4_
                  clear n0_ n1_ n2_ n3_ n4_
                  (try clear hb)
                  (try clear hb2)
                  (try clear hk)
                  (try clear hi)
                  (try clear ho0)
                  refine hK.out _ _ trivial (fun hHeld => ?_)
                  clear hK K
                  refine norm_ (a' := ?_) ?_ ?_
                  rotate_left
                  · show Act.put _ (some 35) _ = _
                    simp only [Act.put, List.setIfInBounds_toArray, List.set_cons_zero, List.set_cons_succ, i64_w, i32_w]
                    rfl
                  refine pure_ (i := 6) (N := some 6) (v := ?_) (a' := ?_) #[true, true, true, true, true, false, true, false] rfl rfl (any_of HT_.out (by kernel_rfl)) (fun _ _ _ h => h) (Or.inl ⟨by rfl, ?_⟩) ?_ ?_
                  rotate_left
                  · intro w'
                    go_simp
                    with_reducible rfl
                  rotate_left
                  · simp only [Act.put, List.setIfInBounds_toArray, List.set_cons_zero, List.set_cons_succ, i64_w, i32_w]
                    rfl
                  refine one_ (i := 5) (N := some 36) #[true, true, true, true, true, true, true, false] rfl rfl (one_of HT_.out (by kernel_rfl)) (by decide) (fun K hK => ?_)
                  have hcv50 := own_string (P := Try.prog) Try.underlying22 Try.underlying5 Try.underlying9 (Kd.own_of_R HO117.out)
                  refine value_ (w1 := ?_) (v := ?_) (by rfl) rfl ?_ ?_
                  rotate_left 2
                  · go_simp
                    constructor
                    · rfl
                    · rfl
                  clear hcv50
                  refine hK.out _ _ trivial (fun hHeld => ?_)
                  clear hK K
                  refine norm_ (a' := ?_) ?_ ?_
                  rotate_left
                  · show Act.put _ (some 36) _ = _
                    simp only [Act.put, List.setIfInBounds_toArray, List.set_cons_zero, List.set_cons_succ, i64_w, i32_w]
                    rfl
                  exact norm_ (by simp only [putAll, Act.put, List.setIfInBounds_toArray, List.set_cons_zero, List.set_cons_succ]) (hCont (v116) _ ⟨(by (with_reducible repeat (first | apply Kd.R_alloc | apply Kd.R_drewN | apply Kd.R_drew)); exact Kd.R_mono HO114.out (fun _ hk => hk.2)), (by (with_reducible repeat (first | apply Kd.R_alloc | apply Kd.R_drewN | apply Kd.R_drew)); exact Kd.R_mono HO117.out (fun _ hk => hk.2)), (by (with_reducible repeat (first | apply Kd.R_alloc | apply Kd.R_drewN | apply Kd.R_drew)); exact HO_3.out), (by (with_reducible repeat (first | apply Kd.R_alloc | apply Kd.R_drewN | apply Kd.R_drew)); exact HO_4.out), (by repeat (first | (with_reducible first | exact HB.out | apply below_alloc | apply pw_below_drewN | apply below_drew1) | exact HB.out))⟩)
                · skip
                  refine goes_ Try.func14 (by kernel_rfl) rfl #[.slice Ao16 t103.length co16] (by rfl) rfl rfl (by (try simp only [List.map_toArray, List.map_cons, List.map_nil]); first | done | rfl | (simp only [List.length_drop, List.length_take]; rfl)) ?_
                  with_reducible refine (impl_TupleBytes.calls kj12 _ _ t103 t115 _ ?side1 ?side2 A27.out).mono ?_
                  (case side1 => repeat (first | exact (Kd.R_reads' HO_4.out).2.2 | (with_reducible refine Kd.C_alloc ?_ _) | (with_reducible refine Kd.C_drewN ?_ _) | (with_reducible refine Kd.C_drew ?_)))
                  (case side2 => exact (Kd.R_reads' HO_4.out).2.1)
                  rintro e w48 ⟨v116, rfl, ho0, hb⟩
                  refine ⟨_, rfl, ?_⟩
                  have n0_ := Aside0.mk (Kd.R_below (by (with_reducible repeat (first | apply Kd.R_alloc | apply Kd.R_drewN | apply Kd.R_drew)); exact HO_3.out) hb)
                  have n1_ := Aside0.mk (Kd.R_below (by (with_reducible repeat (first | apply Kd.R_alloc | apply Kd.R_drewN | apply Kd.R_drew)); exact HO_4.out) hb)
                  have n2_ := Aside0.mk (Kd.R_elder' (by (with_reducible repeat (first | apply Kd.R_alloc | apply Kd.R_drewN | apply Kd.R_drew)); exact HO114.out) (Kd.R_base ho0) hb)
                  have n3_ := Aside0.mk (Kd.R_lower (Kd.R_new' ho0 (Kd.R_lt (by (with_reducible repeat (first | apply Kd.R_alloc | apply Kd.R_drewN | apply Kd.R_drew)); exact HO114.out))) (below_size (by repeat (first | (with_reducible first | exact HB.out | apply below_alloc | apply pw_below_drewN | apply below_drew1) | exact HB.out))))
                  have n4_ := Aside0.mk (below_step (by repeat (first | (with_reducible first | exact HB.out | apply below_alloc | apply pw_below_drewN | apply below_drew1) | exact HB.out)) hb)
                  clear HO_3
                  clear HO_4
                  clear HO114
                  clear HB
                  have HO_3 := n0_
                  have HO_4 := n1_
                  have HO114 := n2_
                  have HO117 := n3_
                  have HB := n4_
                  clear n0_ n1_ n2_ n3_ n4_
                  (try clear hb)
                  (try clear hb2)
                  (try clear hk)
                  (try clear hi)
                  (try clear ho0)
                  refine hK.out _ _ trivial (fun hHeld => ?_)
                  clear hK K
                  refine norm_ (a' := ?_) ?_ ?_
                  rotate_left
                  · show Act.put _ (some 35) _ = _
                    simp only [Act.put, List.setIfInBounds_toArray, List.set_cons_zero, List.set_cons_succ, i64_w, i32_w]
                    rfl
                  refine two_ (i := 2) (j := 5) (Ni := some 33) (Nj := some 36) #[true, true, true, true, true, false, false, false] #[true, true, false, true, true, true, false, false] rfl rfl rfl rfl (two_of HT_.out (by kernel_rfl)) (by decide) (by decide) (fun K hK => ?_) (fun K hK => ?_)
                  · skip
                    have hcv49 := own_string (P := Try.prog) Try.underlying22 Try.underlying5 Try.underlying9 (Kd.own_of_R HO114.out)
                    refine value_ (w1 := ?_) (v := ?_) (by rfl) rfl ?_ ?_
                    rotate_left 2
                    · go_simp
                      constructor
                      · rfl
                      · rfl
                    clear hcv49
                    refine hK.out _ _ trivial (fun hHeld => ?_)
                    clear hK K
                    refine norm_ (a' := ?_) ?_ ?_
                    rotate_left
                    · show Act.put _ (some 33) _ = _
                      simp only [Act.put, List.setIfInBounds_toArray, List.set_cons_zero, List.set_cons_succ, i64_w, i32_w]
                      rfl
                    refine pure_ (i := 6) (N := some 6) (v := ?_) (a' := ?_) #[true, true, true, true, true, false, true, false] rfl rfl (any_of HT_.out (by kernel_rfl)) (fun _ _ _ h => h) (Or.inl ⟨by rfl, ?_⟩) ?_ ?_
                    rotate_left
                    · intro w'
                      go_simp
                      with_reducible rfl
                    rotate_left
                    · simp only [Act.put, List.setIfInBounds_toArray, List.set_cons_zero, List.set_cons_succ, i64_w, i32_w]
                      rfl
                    refine one_ (i := 5) (N := some 36) #[true, true, true, true, true, true, true, false] rfl rfl (one_of HT_.out (by kernel_rfl)) (by decide) (fun K hK => ?_)
                    have hcv50 := own_string (P := Try.prog) Try.underlying22 Try.underlying5 Try.underlying9 (Kd.own_of_R HO117.out)
                    refine value_ (w1 := ?_) (v := ?_) (by rfl) rfl ?_ ?_
                    rotate_left 2
                    · go_simp
                      constructor
                      · rfl
                      · rfl
                    clear hcv50
                    refine hK.out _ _ trivial (fun hHeld => ?_)
                    clear hK K
                    refine norm_ (a' := ?_) ?_ ?_
                    rotate_left
                    · show Act.put _ (some 36) _ = _
                      simp only [Act.put, List.setIfInBounds_toArray, List.set_cons_zero, List.set_cons_succ, i64_w, i32_w]
                      rfl
                    exact norm_ (by simp only [putAll, Act.put, List.setIfInBounds_toArray, List.set_cons_zero, List.set_cons_succ]) (hCont (v116) _ ⟨(by (with_reducible repeat (first | apply Kd.R_alloc | apply Kd.R_drewN | apply Kd.R_drew)); exact Kd.R_mono HO114.out (fun _ hk => hk.2)), (by (with_reducible repeat (first | apply Kd.R_alloc | apply Kd.R_drewN | apply Kd.R_drew)); exact Kd.R_mono HO117.out (fun _ hk => hk.2)), (by (with_reducible repeat (first | apply Kd.R_alloc | apply Kd.R_drewN | apply Kd.R_drew)); exact HO_3.out), (by (with_reducible repeat (first | apply Kd.R_alloc | apply Kd.R_drewN | apply Kd.R_drew)); exact HO_4.out), (by repeat (first | (with_reducible first | exact HB.out | apply below_alloc | apply pw_below_drewN | apply below_drew1) | exact HB.out))⟩)
                  · skip
                    have hcv49 := own_string (P := Try.prog) Try.underlying22 Try.underlying5 Try.underlying9 (Kd.own_of_R HO117.out)
                    refine value_ (w1 := ?_) (v := ?_) (by rfl) rfl ?_ ?_
                    rotate_left 2
                    · go_simp
                      constructor
                      · rfl
                      · rfl
                    clear hcv49
                    refine hK.out _ _ trivial (fun hHeld => ?_)
                    clear hK K
                    refine norm_ (a' := ?_) ?_ ?_
                    rotate_left
                    · show Act.put _ (some 36) _ = _
                      simp only [Act.put, List.setIfInBounds_toArray, List.set_cons_zero, List.set_cons_succ, i64_w, i32_w]
                      rfl
                    refine one_ (i := 2) (N := some 33) #[true, true, true, true, true, true, false, false] rfl rfl (one_of HT_.out (by kernel_rfl)) (by decide) (fun K hK => ?_)
                    have hcv50 := own_string (P := Try.prog) Try.underlying22 Try.underlying5 Try.underlying9 (Kd.own_of_R HO114.out)
                    refine value_ (w1 := ?_) (v := ?_) (by rfl) rfl ?_ ?_
                    rotate_left 2
                    · go_simp
                      constructor
                      · rfl
                      · rfl
                    clear hcv50
                    refine hK.out _ _ trivial (fun hHeld => ?_)
                    clear hK K
                    refine norm_ (a' := ?_) ?_ ?_
                    rotate_left
                    · show Act.put _ (some 33) _ = _
                      simp only [Act.put, List.setIfInBounds_toArray, List.set_cons_zero, List.set_cons_succ, i64_w, i32_w]
                      rfl
                    refine pure_ (i := 6) (N := some 6) (v := ?_) (a' := ?_) #[true, true, true, true, true, true, true, false] rfl rfl (any_of HT_.out (by kernel_rfl)) (fun _ _ _ h => h) (Or.inl ⟨by rfl, ?_⟩) ?_ ?_
                    rotate_left
                    · intro w'
                      go_simp
                      with_reducible rfl
                    rotate_left
                    · simp only [Act.put, List.setIfInBounds_toArray, List.set_cons_zero, List.set_cons_succ, i64_w, i32_w]
                      rfl
                    exact norm_ (by simp only [putAll, Act.put, List.setIfInBounds_toArray, List.set_cons_zero, List.set_cons_succ]) (hCont (v116) _ ⟨(by (with_reducible repeat (first | apply Kd.R_alloc | apply Kd.R_drewN | apply Kd.R_drew)); exact Kd.R_mono HO114.out (fun _ hk => hk.2)), (by (with_reducible repeat (first | apply Kd.R_alloc | apply Kd.R_drewN | apply Kd.R_drew)); exact Kd.R_mono HO117.out (fun _ hk => hk.2)), (by (with_reducible repeat (first | apply Kd.R_alloc | apply Kd.R_drewN | apply Kd.R_drew)); exact HO_3.out), (by (with_reducible repeat (first | apply Kd.R_alloc | apply Kd.R_drewN | apply Kd.R_drew)); exact HO_4.out), (by repeat (first | (with_reducible first | exact HB.out | apply below_alloc | apply pw_below_drewN | apply below_drew1) | exact HB.out))⟩)
              rintro v116 w51 ⟨h0_, h1_, h2_, h3_, h4_⟩
              have n0_ : Aside0 (Kd.R (Kd.int .u8) 5 w51 w.heap.size (fun k_ => some k_ ≠ (v116 : Value).ownBlock) v113 t112) := ⟨h0_⟩
              have n1_ : Aside0 (Kd.R (Kd.int .u8) 5 w51 w.heap.size (fun k_ => some k_ ≠ (v113 : Value).ownBlock) v116 t115) := ⟨h1_⟩
              have n2_ : Aside0 (Kd.R k37 37 w51 w.heap.size (fun k_ => some k_ ≠ (.slice Ao16 t103.length co16 : Value).ownBlock) (.slice Ao15 t102.length co15) t102) := ⟨h2_⟩
              have n3_ : Aside0 (Kd.R k37 37 w51 w.heap.size (fun k_ => some k_ ≠ (.slice Ao15 t102.length co15 : Value).ownBlock) (.slice Ao16 t103.length co16) t103) := ⟨h3_⟩
              have n4_ : Aside0 (Below w.heap.size w w51) := ⟨h4_⟩
              clear HO_3
              clear HO_4
              clear HB
              clear h0_ h1_ h2_ h3_ h4_
              have HO114 := n0_
              have HO117 := n1_
              have HO_3 := n2_
              have HO_4 := n3_
              have HB := n4_
              clear n0_ n1_ n2_ n3_ n4_
              have hHeld := trivial
              refine norm_ (a' := ?_) ?_ ?_
              rotate_left
              · simp only [putAll, Act.put, List.setIfInBounds_toArray, List.set_cons_zero, List.set_cons_succ]
                rfl
              refine pure_ (i := 7) (N := some 7) (v := ?_) (a' := ?_) #[true, true, true, true, true, true, true, true] rfl rfl (any_of HT_.out (by kernel_rfl)) (fun _ _ _ h => h) (Or.inl ⟨by rfl, ?_⟩) ?_ ?_
              rotate_left
              · intro w'
                go_simp
                with_reducible rfl
              rotate_left
              · simp only [Act.put, List.setIfInBounds_toArray, List.set_cons_zero, List.set_cons_succ, i64_w, i32_w]
                rfl
              refine done_ (done_of HT_.out (by kernel_rfl)) ?_
              try go_wp2
              go_ret
              exact ⟨by first | rfl | (simp [errW_none, errW_some] <;> rfl) | (simp [*, errW_none, errW_some] <;> rfl), by repeat (first | (with_reducible first | exact HB.out | apply below_alloc | apply pw_below_drewN | apply below_drew1) | exact HB.out)⟩
end Go.Proofs.Ytcedikpkbgofhaa.P
namespace Go.Proofs.YtcedikpkbgofhaaZ
open Go.RowKit Go.Proofs.YtcedikpkbgofhaaW.PrintWords Go.Proofs.YtcedikpkbgofhaaW.PrintLast
def Opens {α : Type} (P : Program) (t : TypeId) (d : Kd α) (wf : α → Prop) : Prop :=
  ∀ (H : Type) (enc : TypeId × Value → H) (w : World) (fuel : Nat) (cs : List Value) (x : DataW H × List MemPlace),
    DataW.trod enc P w 0 (fun _ => true) true fuel t cs = some x → ∃ a, d.K w a cs ∧ wf a
theorem Opens.int {P : Program} {t : TypeId} {k : IntKind} (hu : P.underlying t = some (.int k)) : Opens P t (Kd.int k) (fun n => (Lit.int k n).wf = true) := by
  intro H enc w fuel cs x h
  obtain ⟨n, rfl, _, hw⟩ := DataW.trod_int hu h
  exact ⟨n, rfl, hw⟩
theorem Opens.bool {P : Program} {t : TypeId} (hu : P.underlying t = some .bool) : Opens P t Kd.bool (fun _ => True) := by
  intro H enc w fuel cs x h
  obtain ⟨n, rfl, _⟩ := DataW.trod_bool hu h
  exact ⟨n, rfl, trivial⟩
theorem Opens.string {P : Program} {t : TypeId} (hu : P.underlying t = some .string) : Opens P t Kd.string (fun s => s.size ≤ 9223372036854775807) := by
  intro H enc w fuel cs x h
  obtain ⟨n, rfl, _, hw⟩ := DataW.trod_string hu h
  exact ⟨n, rfl, by simpa [maxLen] using hw⟩
theorem exists_list {α : Type} (Q : Nat → α → Prop) : ∀ n, (∀ i, i < n → ∃ y, Q i y) → ∃ xs : List α, xs.length = n ∧ ∀ j p, xs[j]? = some p → Q j p
  | 0, _ => ⟨[], rfl, fun j p h => by simp at h⟩
  | n + 1, h => by
    obtain ⟨xs, hl, hx⟩ := exists_list Q n (fun i hi => h i (by omega))
    obtain ⟨y, hy⟩ := h n (by omega)
    refine ⟨xs ++ [y], by simp [hl], fun j p hj => ?_⟩
    by_cases hjn : j < n
    · rw [List.getElem?_append_left (by omega)] at hj
      exact hx j p hj
    · have hlt := (List.getElem?_eq_some_iff.1 hj).1
      rw [List.length_append, List.length_singleton, hl] at hlt
      obtain rfl : j = n := by omega
      rw [List.getElem?_append_right (by omega), hl, Nat.sub_self] at hj
      obtain rfl : y = p := by simpa using hj
      exact hy
theorem Opens.slice {α : Type} {P : Program} {t e : TypeId} {d : Kd α} {wf : α → Prop} (e' : Nat) (hu : P.underlying t = some (.slice e)) (hc : P.cellsOf e = d.sz) (he : Opens P e d wf) :
    Opens P t (Kd.slice e' d) (fun xs => xs.length ≤ 9223372036854775807 ∧ ∀ a ∈ xs, wf a) := by
  intro H enc w fuel cs x h
  rcases DataW.trod_slice hu h with ⟨rfl, _⟩ | ⟨a, len, cap, elems, rest, n, _, rfl, _, hb, hl, hm, hlen, hel, _, _⟩
  · exact ⟨[], ⟨none, 0, rfl, Nat.le_refl _, Kd.C_nil _ _⟩, by simp⟩
  · have each : ∀ i, i < len → ∃ y, wf y ∧ ∃ c, c.length = d.sz ∧ d.K w y c ∧ ∀ j u, c[j]? = some u → w.cell? (a.add (i * d.sz + j)) = some u := by
      intro i hi
      have h1 := hel i hi
      rw [List.getElem?_eq_getElem (by omega), hc, Option.bind_eq_some_iff] at h1
      obtain ⟨c, hcs, hy⟩ := h1
      obtain ⟨y, hK, hw⟩ := he _ _ _ _ _ _ hy
      refine ⟨y, hw, c, d.K_len hK, hK, fun j u hj => ?_⟩
      have h2 := World.cells?_some hcs
      rw [← Addr.add_add]
      have hjl := (List.getElem?_eq_some_iff.1 hj).1
      rw [← hj]
      exact (h2.2.2 j (by rw [← h2.2.1]; exact hjl))
    obtain ⟨xs, hxl, hxs⟩ := exists_list _ len each
    simp only [maxLen] at hm
    refine ⟨xs, ⟨some a, cap, by rw [hxl], by omega, rfl, by omega, fun _ => ⟨a, rfl, fun j p hj => ?_⟩⟩, by omega, fun y hy => ?_⟩
    · obtain ⟨_, c, hcl, hK, hcell⟩ := hxs j p hj
      exact ⟨c, hcl, hK, hcell⟩
    · obtain ⟨j, hj⟩ := List.getElem?_of_mem hy
      exact (hxs j y hj).1
def OpensF {α : Type} (P : Program) (fs : Array Field) (o : Nat) (d : Kd α) (wf : α → Prop) : Prop :=
  ∀ (H : Type) (enc : TypeId × Value → H) (w : World) (fuel : Nat) (cs : List Value) (xs : List (DataW H × List MemPlace)), cs.length = o + d.sz → xs.length = fs.size →
    (∀ (j : Nat) (f : Field), fs[j]? = some f → DataW.trod enc P w 0 (fun _ => true) true fuel f.type ((cs.drop f.offset).take (P.cellsOf f.type)) = xs[j]?) → ∃ a, d.K w a (cs.drop o) ∧ wf a
theorem OpensF.cons {α β : Type} {P : Program} {fs : Array Field} {o : Nat} {d : Kd α} {d' : Kd β} {wf : α → Prop} {wf' : β → Prop} (i : Nat) (f : Field) (hf : fs[i]? = some f) (ho : f.offset = o) (hc : P.cellsOf f.type = d.sz) (h : Opens P f.type d wf)
    (h' : OpensF P fs (o + d.sz) d' wf') : OpensF P fs o (Kd.pair d d') (fun x => wf x.1 ∧ wf' x.2) := by
  intro H enc w fuel cs xs hl hx hall
  have h1 := hall i f hf
  have hi : i < xs.length := by rw [hx]; exact (Array.getElem?_eq_some_iff.1 hf).1
  rw [List.getElem?_eq_getElem hi, ho, hc] at h1
  obtain ⟨a, hK, hw⟩ := h _ _ _ _ _ _ h1
  have hl' : cs.length = o + (d.sz + d'.sz) := hl
  obtain ⟨b, hK', hw'⟩ := h' H enc w fuel cs xs (by omega) hx hall
  refine ⟨(a, b), ⟨_, _, ?_, hK, hK'⟩, hw, hw'⟩
  rw [← List.drop_drop, List.take_append_drop]
theorem Opens.struct {α β : Type} {P : Program} {t : TypeId} {fs : Array Field} {d : Kd α} {wf : α → Prop} (f : β → α) (g : α → β) (hfg : ∀ a, f (g a) = a) (hu : P.underlying t = some (.struct fs)) (hc : P.cellsOf t = d.sz) (h : OpensF P fs 0 d wf) :
    Opens P t (Kd.iso d f) (fun b => wf (f b)) := by
  intro H enc w fuel cs x hx
  obtain ⟨xs, n, _, _, hl, hxl, hall⟩ := DataW.trod_struct hu hx
  obtain ⟨a, hK, hw⟩ := h H enc w n cs xs (by omega) hxl hall
  refine ⟨g a, ?_, ?_⟩
  · show d.K w (f (g a)) cs
    rw [hfg]; exact hK
  · show wf (f (g a))
    rw [hfg]; exact hw
theorem Opens.param {α : Type} {P : Program} {t : TypeId} {d : Kd α} {wf : α → Prop} (h : Opens P t d wf) {H : Type} {enc : TypeId × Value → H} {w : World} {v : Value} {D : DataW H} {ps : List MemPlace} (hv : DataW.Trod enc P w 0 (fun _ => true) true t v D ps) :
    ∃ a, d.K w a v.cells.toList ∧ wf a := by
  obtain ⟨fuel, hf⟩ := hv
  exact h _ _ _ _ _ _ hf
end Go.Proofs.YtcedikpkbgofhaaZ
namespace Go.Proofs.Ytcedikpkbgofhaa.P
open Go.RowKit Go.Proofs.YtcedikpkbgofhaaW.PrintWords Go.Proofs.YtcedikpkbgofhaaW.PrintLast Go.Proofs.YtcedikpkbgofhaaZ
def PureFnTupleOrder : Prop := ∀ (x0 : List Int), (x0.length ≤ 9223372036854775807 ∧ ∀ y ∈ x0, (Lit.int .u8 y).wf = true) → ∃ k, laws_FnTupleOrder.f k x0 = some true
end Go.Proofs.Ytcedikpkbgofhaa.P
namespace Go.Proofs.Ytcedikpkbgofhaa.P
open Go.RowKit Go.Proofs.YtcedikpkbgofhaaW.PrintWords Go.Proofs.YtcedikpkbgofhaaW.PrintLast Go.Proofs.YtcedikpkbgofhaaW.PrintMore
attribute [local go_sem] max2_int min2_int max_two min_two max_three min_three max_four min_four   -- for this text's walks alone
set_option linter.unusedVariables false
set_option linter.unusedSimpArgs false
def spec_l1In.f (a0 : Int) (a1 : Int) (a2 : Int) : Option (Bool) := if a0 ≥ a1 then (some (decide (a0 ≤ a2))) else (some false)
end Go.Proofs.Ytcedikpkbgofhaa.P
namespace Go.Proofs.Ytcedikpkbgofhaa.P
open Go.RowKit Go.Proofs.YtcedikpkbgofhaaW.PrintWords Go.Proofs.YtcedikpkbgofhaaW.PrintLast Go.Proofs.YtcedikpkbgofhaaW.PrintMore
attribute [local go_sem] max2_int min2_int max_two min_two max_three min_three max_four min_four   -- for this text's walks alone
set_option linter.unusedVariables false
set_option linter.unusedSimpArgs false
def spec_ValueOk.f (a0_0 : Int) (a0_1 : Int) (a0_2 : ByteArray) : Option (Bool) := if a0_0 = 0 then (if a0_1 = 0 then (some (a0_2.toList == ([] : List UInt8))) else (some false)) else (if a0_0 = 1 then ((spec_l1In.f a0_1 0 1).bind fun t102 => (if t102 = true then (some (a0_2.toList == ([] : List UInt8))) else (some false))) else (if a0_0 = 2 then ((spec_l1In.f a0_1 (-1000000000000) 1000000000000).bind fun t103 => (if t103 = true then (some (a0_2.toList == ([] : List UInt8))) else (some false))) else (if a0_0 = 3 then (if a0_1 = 0 then (some (decide ((a0_2.size : Int) ≤ 20))) else (some false)) else (some false))))
end Go.Proofs.Ytcedikpkbgofhaa.P
namespace Go.Proofs.Ytcedikpkbgofhaa.P
open Go.RowKit Go.Proofs.YtcedikpkbgofhaaW.PrintWords Go.Proofs.YtcedikpkbgofhaaW.PrintLast Go.Proofs.YtcedikpkbgofhaaW.PrintMore
attribute [local go_sem] max2_int min2_int max_two min_two max_three min_three max_four min_four   -- for this text's walks alone
set_option linter.unusedVariables false
set_option linter.unusedSimpArgs false
end Go.Proofs.Ytcedikpkbgofhaa.P
namespace Go.Proofs.Ytcedikpkbgofhaa.P
open Go.RowKit Go.Proofs.YtcedikpkbgofhaaW.PrintWords Go.Proofs.YtcedikpkbgofhaaW.PrintLast Go.Proofs.YtcedikpkbgofhaaW.PrintMore
attribute [local go_sem] max2_int min2_int max_two min_two max_three min_three max_four min_four   -- for this text's walks alone
set_option linter.unusedVariables false
set_option linter.unusedSimpArgs false
end Go.Proofs.Ytcedikpkbgofhaa.P
namespace Go.Proofs.Ytcedikpkbgofhaa.P
open Go.RowKit Go.Proofs.YtcedikpkbgofhaaW.PrintWords Go.Proofs.YtcedikpkbgofhaaW.PrintLast Go.Proofs.YtcedikpkbgofhaaW.PrintMore
attribute [local go_sem] max2_int min2_int max_two min_two max_three min_three max_four min_four   -- for this text's walks alone
set_option linter.unusedVariables false
set_option linter.unusedSimpArgs false
end Go.Proofs.Ytcedikpkbgofhaa.P
namespace Go.Proofs.YtcedikpkbgofhaaW.PrintWords
section
variable {α : Type}
theorem Ev.shift {g : Nat → Option α} {r : α} (h : Ev (fun k => g (k + 1)) r) : Ev g r := Ev.step (fun _ => rfl) h
theorem Ev.val {a r : α} (h : a = r) : Ev (fun _ => some a) r := by subst h; exact Ev.now _
theorem Ev.pos {p : Prop} [Decidable p] {g f : Nat → Option α} {r : α} (h : p) (hg : Ev g r) : Ev (fun k => if p then g k else f k) r := by
  simp only [if_pos h]; exact hg
theorem Ev.neg {p : Prop} [Decidable p] {g f : Nat → Option α} {r : α} (h : ¬ p) (hf : Ev f r) : Ev (fun k => if p then g k else f k) r := by
  simp only [if_neg h]; exact hf
end
end Go.Proofs.YtcedikpkbgofhaaW.PrintWords
namespace Go.Proofs.YtcedikpkbgofhaaZ
open Go.RowKit Go.Proofs.YtcedikpkbgofhaaW.PrintWords
theorem back {n : Nat} {Q : Nat → Prop} (hn : Q n) (hs : ∀ i, i < n → Q (i + 1) → Q i) : ∀ i, i ≤ n → Q i := by
  intro i hi
  obtain ⟨d, rfl⟩ : ∃ d, n = i + d := ⟨n - i, by omega⟩
  clear hi
  induction d generalizing i with
  | zero => exact hn
  | succ d ih =>
    refine hs i (by omega) (ih (i + 1) ?_ ?_)
    · rw [show i + 1 + d = i + (d + 1) by omega]; exact hn
    · intro j hj; exact hs j (by omega)
theorem w64 {n : Int} (h1 : -9223372036854775808 ≤ n) (h2 : n < 9223372036854775808) : wrap64 n = n := by unfold wrap64; omega
theorem w32 {n : Int} (h1 : -2147483648 ≤ n) (h2 : n < 2147483648) : wrap32 n = n := by unfold wrap32; omega
theorem succ64 {i n : Nat} (h : i < n) (hn : n ≤ 9223372036854775807) : wrap64 ((i : Int) + 1) = ((i + 1 : Nat) : Int) := by
  rw [w64 (by omega) (by omega)]; simp
section
variable {τ σ : Type}
theorem getD_get {xs : List τ} {i : Nat} {x d : τ} (h : xs[i]? = some x) : xs.getD ((i : Int)).toNat d = x := by
  rw [Int.toNat_natCast, List.getD_eq_getElem?_getD, h]; rfl
end
theorem rd_get {xs : List Int} {i : Nat} {x : Int} (h : xs[i]? = some x) : rd xs i = x := getD_get h
end Go.Proofs.YtcedikpkbgofhaaZ
namespace Go.Proofs.Ytcedikpkbgofhaa.P
abbrev iV := S37
end Go.Proofs.Ytcedikpkbgofhaa.P
section
set_option linter.unusedSimpArgs false
set_option linter.unusedVariables false
namespace Go.Proofs.Ytcedikpkbgofhaa.P
open Go.RowKit Go.Proofs.YtcedikpkbgofhaaW.PrintWords Go.Proofs.YtcedikpkbgofhaaW.PrintLast Go.Proofs.YtcedikpkbgofhaaZ
def okV (a : iV) : Bool := (a.f0 == 0 && a.f1 == 0 && a.f2.size == 0) || (a.f0 == 1 && decide (0 ≤ a.f1 ∧ a.f1 ≤ 1) && a.f2.size == 0) || (a.f0 == 2 && decide (-1000000000000 ≤ a.f1 ∧ a.f1 ≤ 1000000000000) && a.f2.size == 0) || (a.f0 == 3 && a.f1 == 0 && decide (a.f2.size ≤ 20))
theorem ba_nil (s : ByteArray) : (s.toList == ([] : List UInt8)) = (s.size == 0) := by
  rw [ByteArray.toList_eq, Bool.eq_iff_iff]
  simp only [beq_iff_eq]
  constructor
  · intro h; show s.data.size = 0; rw [← Array.length_toList, h]; rfl
  · intro h; apply List.eq_nil_of_length_eq_zero; rw [Array.length_toList]; exact h
theorem spec_ValueOk_eq (a : iV) : spec_ValueOk.f a.f0 a.f1 a.f2 = some (okV a) := by
  simp only [spec_ValueOk.f, spec_l1In.f, okV, ba_nil]
  by_cases h0 : a.f0 = 0
  · by_cases h1 : a.f1 = 0 <;> simp [h0, h1]
  · by_cases h1 : a.f0 = 1
    · by_cases h2 : a.f1 ≥ 0 <;> by_cases h3 : a.f1 ≤ 1 <;> simp [h0, h1, h2, h3]
    · by_cases h2 : a.f0 = 2
      · by_cases h4 : a.f1 ≥ (-1000000000000) <;> by_cases h3 : a.f1 ≤ 1000000000000 <;> simp [h0, h1, h2, h3, h4]
      · by_cases h3 : a.f0 = 3
        · by_cases h4 : a.f1 = 0
          · simp [h3, h4]; omega
          · simp [h3, h4]
        · simp [h0, h1, h2, h3]
theorem impl_ValueOk_eq (a : iV) : impl_ValueOk.f a.f0 a.f1 a.f2 = some (okV a) := spec_ValueOk_eq a
end Go.Proofs.Ytcedikpkbgofhaa.P
end
section
set_option linter.unusedSimpArgs false
set_option linter.unusedVariables false
namespace Go.Proofs.Ytcedikpkbgofhaa.P
open Go.RowKit Go.Proofs.YtcedikpkbgofhaaW.PrintWords Go.Proofs.YtcedikpkbgofhaaW.PrintLast Go.Proofs.YtcedikpkbgofhaaZ
theorem rdV_at {l : List iV} {i : Nat} (h : i < l.length) : rd_T37 l (i : Int) = l[i] := getD_get (List.getElem?_eq_getElem h)
theorem drop_at {α : Type _} {l : List α} {i : Nat} (h : i < l.length) : l.drop i = l[i] :: l.drop (i + 1) := List.drop_eq_getElem_cons h
def okT (x : List iV) : Bool := x.all okV && decide (x.length ≤ 4)
theorem impl_TupleOk_ev (x : List iV) (hx : x.length ≤ 9223372036854775807) : Ev (fun k => impl_TupleOk.f k x) (okT x) := by
  simp only [impl_TupleOk.f, okT]
  by_cases hl : x.length ≤ 4
  · have hl2 : (x.length : Int) ≤ 4 := by omega
    simp only [hl, hl2, if_true, decide_true, Bool.and_true]
    have key : ∀ i : Nat, i ≤ x.length → ∃ r : Int, Ev (fun k => impl_Value_82_54.l0 k x (x.length : Int) (i : Int)) r ∧ decide (r ≥ 0) = !((x.drop i).all okV) := by
      refine back ⟨-1, ?_, by simp⟩ fun i hi ih => ?_
      · refine Ev.shift ?_
        simp only [impl_Value_82_54.l0, Int.lt_irrefl, if_false]
        exact Ev.now _
      · obtain ⟨r, h, e⟩ := ih
        have h0 : (0 : Int) ≤ (i : Int) := by omega
        have h1 : (i : Int) < (x.length : Int) := by omega
        cases h2 : okV x[i]
        · refine ⟨i, Ev.shift ?_, ?_⟩
          · simp only [impl_Value_82_54.l0, impl_TupleOk_1.f, h0, h1, if_true, rdV_at hi, impl_ValueOk_eq, Option.bind_some, h2, Bool.not_false]
            exact Ev.now _
          · rw [drop_at hi, List.all_cons, h2]; simp
        · refine ⟨r, Ev.shift ?_, ?_⟩
          · simp only [impl_Value_82_54.l0, impl_TupleOk_1.f, h0, h1, if_true, rdV_at hi, impl_ValueOk_eq, Option.bind_some, h2, Bool.not_true, Bool.false_eq_true, if_false, succ64 hi hx]
            exact h
          · rw [drop_at hi, List.all_cons, h2, e]; simp
    obtain ⟨r, h, e⟩ := key 0 (Nat.zero_le _)
    simp only [List.drop_zero] at e
    simp only [impl_Value_53_54.f, impl_Value_82_54.f]
    refine Ev.bind (Ev.bind h (Ev.now _)) ?_
    rw [e, Bool.not_not]
    exact Ev.now _
  · have hl2 : ¬ (x.length : Int) ≤ 4 := by omega
    simp only [hl, hl2, if_false, decide_false, Bool.and_false]
    exact Ev.now _
end Go.Proofs.Ytcedikpkbgofhaa.P
end
section
set_option linter.unusedSimpArgs false
set_option linter.unusedVariables false
namespace Go.Proofs.Ytcedikpkbgofhaa.P
open Go.RowKit Go.Proofs.YtcedikpkbgofhaaW.PrintWords Go.Proofs.YtcedikpkbgofhaaW.PrintLast Go.Proofs.YtcedikpkbgofhaaW.PrintMore Go.Proofs.YtcedikpkbgofhaaZ
def byts (s : ByteArray) : List Int := s.data.toList.map fun u => (u.toNat : Int)
theorem byts_length (s : ByteArray) : (byts s).length = s.size := by unfold byts; rw [List.length_map, Array.length_toList]; rfl
theorem byts_get (s : ByteArray) (i : Nat) (h : i < (byts s).length) : (byts s)[i] = bt s (i : Int) := by
  have h2 : i < s.size := by rw [byts_length] at h; exact h
  have e : (byts s)[i] = ((s.data.toList[i]'(by rw [Array.length_toList]; exact h2)).toNat : Int) := List.getElem_map ..
  rw [e]
  unfold bt
  rw [dif_pos (show (i : Int).toNat < s.size from h2)]
  rfl
theorem byts_str (s : ByteArray) : strOfNums (byts s) = s := by
  cases s with
  | mk d =>
    simp only [strOfNums, byts, List.map_map]
    congr 1
    have : ((fun n : Int => UInt8.ofNat n.toNat) ∘ fun u : UInt8 => (u.toNat : Int)) = id := by
      funext u; simp
    rw [this, List.map_id]
theorem byts_drop (s : ByteArray) {i : Nat} (h : i < s.size) : (byts s).drop i = bt s (i : Int) :: (byts s).drop (i + 1) := by
  have h' : i < (byts s).length := by rw [byts_length]; exact h
  rw [drop_at h', byts_get s i h']
def be (v : Int) : Nat → List Int
  | 0 => []
  | j + 1 => (v / 2 ^ (8 * j)) % 256 :: be v j
theorem be_length (v : Int) : ∀ j, (be v j).length = j
  | 0 => rfl
  | j + 1 => by simp only [be, List.length_cons, be_length v j]
def esc : List Int → List Int
  | [] => [0, 1]
  | b :: r => b :: (if b = 0 then 255 :: esc r else esc r)
theorem esc_length : ∀ l, (esc l).length ≤ 2 * l.length + 2
  | [] => by simp [esc]
  | b :: r => by
    have := esc_length r
    simp only [esc]
    split <;> simp only [List.length_cons] <;> omega
def encV (a : iV) : List Int :=
  ((a.f0 + 1) % 256) :: (if a.f0 = 1 then [a.f1 % 256] else if a.f0 = 2 then be (a.f1 + 4611686018427387904) 8 else if a.f0 = 3 then esc (byts a.f2) else [])
theorem okV_kind {a : iV} (h : okV a = true) : a.f0 = 0 ∨ (a.f0 = 1 ∧ 0 ≤ a.f1 ∧ a.f1 ≤ 1) ∨ (a.f0 = 2 ∧ -1000000000000 ≤ a.f1 ∧ a.f1 ≤ 1000000000000) ∨ (a.f0 = 3 ∧ a.f1 = 0 ∧ a.f2.size ≤ 20) := by
  simp only [okV, Bool.or_eq_true, Bool.and_eq_true, beq_iff_eq, decide_eq_true_eq] at h
  omega
theorem encV_length {a : iV} (h : okV a = true) : (encV a).length ≤ 43 := by
  unfold encV
  have hk := okV_kind h
  split
  · simp
  · split
    · simp [be_length]
    · split
      · have := esc_length (byts a.f2); rw [byts_length] at this; simp only [List.length_cons]; omega
      · simp
def encs (l : List iV) : List Int := l.flatMap encV
theorem encs_length : ∀ {l : List iV}, (∀ a ∈ l, okV a = true) → (encs l).length ≤ 43 * l.length
  | [], _ => by simp [encs]
  | a :: l, h => by
    have h1 := encV_length (h a (by simp))
    have h2 := encs_length (l := l) (fun b hb => h b (by simp [hb]))
    simp only [encs, List.flatMap_cons, List.length_append, List.length_cons] at h2 ⊢
    omega
theorem encs_take {l : List iV} {i : Nat} (h : i < l.length) : encs (l.take (i + 1)) = encs (l.take i) ++ encV l[i] := by
  rw [← List.take_append_getElem h]
  simp only [encs, List.flatMap_append, List.flatMap_cons, List.flatMap_nil, List.append_nil]
def tbytes (l : List iV) : List Int := if okT l = true then encs l else []
theorem okT_mem {l : List iV} (h : okT l = true) : (∀ a ∈ l, okV a = true) ∧ l.length ≤ 4 := by
  simp only [okT, Bool.and_eq_true, List.all_eq_true, decide_eq_true_eq] at h
  exact h
theorem shr_be (v : Int) (j : Nat) (h : j < 8) : shr .i64 v (8 * (j : Int)) = v / 2 ^ (8 * j) := by
  unfold shr
  have : min (8 * (j : Int)).toNat IntKind.i64.bits = 8 * j := by
    have e : (8 * (j : Int)).toNat = 8 * j := by omega
    rw [e]
    exact Nat.min_eq_left (by show 8 * j ≤ 64; omega)
  rw [this]
theorem impl_be_ev (x13 : List iV) (x14 x15 : Int) (a b : Int) (s : ByteArray) (h0 : 0 ≤ b + 4611686018427387904) (h1 : b + 4611686018427387904 < 2 ^ 63) (r : List Int) : ∀ (j : Nat) (out : List Int), j ≤ 8 → out.length + j ≤ 1000 →
    Ev (fun k => impl_TupleBytes.l0 k (out ++ be (b + 4611686018427387904) j) x13 x14 (wrap64 (x15 + 1))) r →
    Ev (fun k => impl_TupleBytes.l1 k out ((j : Int) - 1) x13 x14 x15 a b s) r := by
  intro j
  induction j with
  | zero =>
    intro out _ _ hr
    refine Ev.shift ?_
    have : ¬ (((0 : Nat) : Int) - 1 ≥ 0) := by omega
    simp only [impl_TupleBytes.l1, this, if_false]
    simp only [be, List.append_nil] at hr
    exact hr
  | succ j ih =>
    intro out hj hl hr
    refine Ev.shift ?_
    have e : ((j + 1 : Nat) : Int) - 1 = (j : Int) := by omega
    have c1 : (j : Int) ≥ 0 := by omega
    have c2 : out.length < 140737488355328 := by omega
    have c3 : (0 : Int) ≤ 8 * (j : Int) := by omega
    rw [e]
    simp only [impl_TupleBytes.l1, c1, c2, if_true, w64 (n := 8 * (j : Int)) (by omega) (by omega), c3, w64 (n := b + 4611686018427387904) (by omega) (by omega), shr_be _ j (by omega), w64 (n := (j : Int) - 1) (by omega) (by omega)]
    refine ih (out ++ [(b + 4611686018427387904) / 2 ^ (8 * j) % 256]) (by omega) (by simp only [List.length_append, List.length_cons, List.length_nil]; omega) ?_
    rw [List.append_assoc]
    exact hr
theorem impl_esc_ev (x13 : List iV) (x14 x15 : Int) (a b : Int) (s : ByteArray) (r : List Int) : ∀ (n i : Nat) (out : List Int), i + n = s.size → out.length + 2 * n ≤ 1000 → i + n ≤ 1000 →
    Ev (fun k => impl_TupleBytes.l0 k (out ++ esc ((byts s).drop i)) x13 x14 (wrap64 (x15 + 1))) r →
    Ev (fun k => impl_TupleBytes.l2 k out x13 x14 x15 (s.size : Int) (i : Int) a b s) r := by
  intro n
  induction n with
  | zero =>
    intro i out hi hl _ hr
    refine Ev.shift ?_
    have c : ¬ ((i : Int) < (s.size : Int)) := by omega
    have c2 : out.length + [(0 : Int), 1].length < 140737488355328 := by simp only [List.length_cons, List.length_nil]; omega
    rw [List.drop_eq_nil_of_le (by rw [byts_length]; omega)] at hr
    simp only [impl_TupleBytes.l2, c, if_false, Option.bind_some, c2, if_true]
    simp only [esc] at hr
    exact hr
  | succ n ih =>
    intro i out hi hl hin hr
    refine Ev.shift ?_
    have c : ((i : Int) < (s.size : Int)) := by omega
    have c1 : (0 : Int) ≤ (i : Int) := by omega
    have c2 : out.length < 140737488355328 := by omega
    have c3 : (out ++ [bt s (i : Int)]).length < 140737488355328 := by simp only [List.length_append, List.length_cons, List.length_nil]; omega
    rw [byts_drop s (by omega)] at hr
    simp only [impl_TupleBytes.l2, c, c1, c2, c3, if_true, Option.bind_some, succ64 (show i < s.size by omega) (by omega)]
    simp only [esc] at hr
    by_cases hz : bt s (i : Int) = 0
    · simp only [hz, if_true] at hr ⊢
      refine ih (i + 1) ((out ++ [0]) ++ [255]) (by omega) (by simp only [List.length_append, List.length_cons, List.length_nil]; omega) (by omega) ?_
      simp only [List.append_assoc, List.cons_append, List.nil_append]
      exact hr
    · simp only [hz, if_false] at hr ⊢
      refine ih (i + 1) (out ++ [bt s (i : Int)]) (by omega) (by simp only [List.length_append, List.length_cons, List.length_nil]; omega) (by omega) ?_
      simp only [List.append_assoc, List.cons_append, List.nil_append]
      exact hr
theorem impl_TupleBytes_ev (l : List iV) (hl : l.length ≤ 9223372036854775807) : Ev (fun k => impl_TupleBytes.f k l) (tbytes l) := by
  simp only [impl_TupleBytes.f, tbytes, Option.bind_some]
  refine Ev.bind (impl_TupleOk_ev l hl) ?_
  by_cases h : okT l = true
  · rw [if_pos h]
    simp only [h, if_true]
    obtain ⟨hm, hl4⟩ := okT_mem h
    refine (back (n := l.length) (Q := fun i => Ev (fun k => impl_TupleBytes.l0 k (encs (l.take i)) l (l.length : Int) (i : Int)) (encs l)) ?_ (fun i hi ih => ?_) 0 (Nat.zero_le _))
    · refine Ev.shift ?_
      simp only [impl_TupleBytes.l0, Int.lt_irrefl, if_false, List.take_length]
      exact Ev.now _
    · have h0 : (0 : Int) ≤ (i : Int) := by omega
      have h1 : (i : Int) < (l.length : Int) := by omega
      have hok : okV l[i] = true := hm _ (List.getElem_mem hi)
      have hk := okV_kind hok
      have hs := encs_length (l := l.take i) (fun a ha => hm a (List.mem_of_mem_take ha))
      rw [List.length_take] at hs
      have c : (encs (l.take i)).length < 140737488355328 := by omega
      have hw : wrap64 (l[i].f0 + 1) = l[i].f0 + 1 := w64 (by omega) (by omega)
      have c2 : (encs (l.take i) ++ [(l[i].f0 + 1) % 256]).length < 140737488355328 := by simp only [List.length_append, List.length_cons, List.length_nil]; omega
      rw [encs_take hi] at ih
      simp only [encV] at ih
      refine Ev.shift ?_
      simp only [impl_TupleBytes.l0, h0, h1, c, c2, if_true, rdV_at hi, hw, Option.bind_some]
      by_cases g1 : l[i].f0 = 1
      · simp only [g1, if_true, succ64 hi hl] at ih c2 ⊢
        simp only [c2, if_true, List.append_assoc, List.cons_append, List.nil_append]
        exact ih
      · by_cases g2 : l[i].f0 = 2
        · simp only [g1, g2, if_true, if_false, show ¬ (2 : Int) = 1 by decide] at ih ⊢
          refine impl_be_ev l (l.length : Int) (i : Int) 2 l[i].f1 l[i].f2 (by omega) (by omega) _ 8 _ (by omega) (by simp only [List.length_append, List.length_cons, List.length_nil]; omega) ?_
          simp only [List.append_assoc, List.cons_append, List.nil_append, succ64 hi hl]
          exact ih
        · by_cases g3 : l[i].f0 = 3
          · simp only [g3, if_true, if_false, show ¬ (3 : Int) = 1 by decide, show ¬ (3 : Int) = 2 by decide] at ih ⊢
            refine impl_esc_ev l (l.length : Int) (i : Int) 3 l[i].f1 l[i].f2 _ l[i].f2.size 0 _ (by omega) (by simp only [List.length_append, List.length_cons, List.length_nil]; omega) (by omega) ?_
            simp only [List.append_assoc, List.cons_append, List.nil_append, succ64 hi hl, List.drop_zero]
            exact ih
          · simp only [g1, g2, g3, if_false, succ64 hi hl] at ih ⊢
            exact ih
  · rw [if_neg h]
    simp only [h, if_false]
    exact Ev.now _
end Go.Proofs.Ytcedikpkbgofhaa.P
end
namespace Go.Proofs.Ytcedikpkbgofhaa.P
open Go.RowKit Go.Proofs.YtcedikpkbgofhaaW.PrintWords Go.Proofs.YtcedikpkbgofhaaW.PrintLast Go.Proofs.YtcedikpkbgofhaaW.PrintMore
attribute [local go_sem] max2_int min2_int max_two min_two max_three min_three max_four min_four   -- for this text's walks alone
set_option linter.unusedVariables false
set_option linter.unusedSimpArgs false
end Go.Proofs.Ytcedikpkbgofhaa.P
section
set_option linter.unusedSimpArgs false
set_option linter.unusedVariables false
namespace Go.Proofs.Ytcedikpkbgofhaa.P
open Go.RowKit Go.Proofs.YtcedikpkbgofhaaW.PrintWords Go.Proofs.YtcedikpkbgofhaaW.PrintLast Go.Proofs.YtcedikpkbgofhaaZ
theorem u8_lt_or (a b : UInt8) : a < b ∨ a = b ∨ b < a := by
  rcases Nat.lt_trichotomy a.toNat b.toNat with h | h | h
  · exact Or.inl (UInt8.lt_iff_toNat_lt.mpr h)
  · exact Or.inr (Or.inl (UInt8.toNat_inj.mp h))
  · exact Or.inr (Or.inr (UInt8.lt_iff_toNat_lt.mpr h))
theorem u8_irr (a : UInt8) : ¬ a < a := fun h => Nat.lt_irrefl _ (UInt8.lt_iff_toNat_lt.mp h)
theorem u8_asym {a b : UInt8} (h : a < b) : ¬ b < a := fun h2 => Nat.lt_asymm (UInt8.lt_iff_toNat_lt.mp h) (UInt8.lt_iff_toNat_lt.mp h2)
theorem u8_ne {a b : UInt8} (h : a < b) : a ≠ b := fun e => u8_irr b (e ▸ h)
theorem cmpB_zero : ∀ a b : List UInt8, (Lib.compareBytes a b == 0) = (a == b)
  | [], [] => by simp [Lib.compareBytes]
  | [], _ :: _ => by simp [Lib.compareBytes]
  | _ :: _, [] => by simp [Lib.compareBytes]
  | a :: x, b :: y => by
    simp only [Lib.compareBytes]
    rcases u8_lt_or a b with h | h | h
    · have := u8_ne h
      simp [h, this]
    · subst h
      have ih := cmpB_zero x y
      simp only [u8_irr, if_false]
      rw [ih]
      simp
    · have := (u8_ne h).symm
      simp [h, this, u8_asym h]
theorem cmpB_lt : ∀ a b : List UInt8, decide (Lib.compareBytes a b < 0) = Op.bytesLess a b
  | [], [] => by simp [Lib.compareBytes, Op.bytesLess]
  | [], _ :: _ => by simp [Lib.compareBytes, Op.bytesLess]
  | _ :: _, [] => by simp [Lib.compareBytes, Op.bytesLess]
  | a :: x, b :: y => by
    simp only [Lib.compareBytes, Op.bytesLess]
    rcases u8_lt_or a b with h | h | h
    · simp [h]
    · subst h
      have ih := cmpB_lt x y
      simp only [u8_irr, if_false]
      rw [ih]
      simp
    · have := (u8_ne h).symm
      simp [h, this, u8_asym h]
def byV (a b : iV) : Int := if a.f0 < b.f0 then -1 else if a.f0 > b.f0 then 1 else if a.f1 < b.f1 then -1 else if a.f1 > b.f1 then 1 else Lib.compareBytes a.f2.toList b.f2.toList
theorem impl_byValue_ev (a b : iV) : Ev (fun k => impl_byValue.f k a.f0 a.f1 a.f2 b.f0 b.f1 b.f2) (byV a b) := by
  simp only [impl_byValue.f, byV]
  by_cases h1 : a.f0 < b.f0
  · simp only [h1, if_true]
    refine Ev.shift ?_
    simp only [impl_byValue.j0, if_true]
    exact Ev.now _
  · by_cases h2 : a.f0 = b.f0
    · have h3 : ¬ a.f0 > b.f0 := by omega
      simp only [h1, if_false, h2, if_true]
      refine Ev.shift ?_
      have h4 : ¬ b.f0 > b.f0 := by omega
      have h4' : ¬ b.f0 < b.f0 := by omega
      by_cases h5 : a.f1 < b.f1
      · simp only [impl_byValue.j0, h5, decide_true, if_true, h4, h4', if_false]
        exact Ev.now _
      · by_cases h6 : a.f1 > b.f1
        · simp only [impl_byValue.j0, h5, decide_false, Bool.false_eq_true, if_false, h4, h4', h6, if_true]
          exact Ev.now _
        · simp only [impl_byValue.j0, h5, decide_false, Bool.false_eq_true, if_false, h4, h4', h6, strings_Compare.f, Option.bind_some, ByteArray.toList_eq]
          exact Ev.now _
    · have h3 : a.f0 > b.f0 := by omega
      simp only [h1, h2, h3, if_false, if_true]
      refine Ev.shift ?_
      simp only [impl_byValue.j0, Bool.false_eq_true, if_false, h3, if_true]
      exact Ev.now _
theorem spec_ValueLess_eq (a b : iV) : spec_ValueLess.f a.f0 a.f1 a.f2 b.f0 b.f1 b.f2 = some (decide (byV a b < 0)) := by
  simp only [spec_ValueLess.f, byV]
  by_cases h1 : a.f0 < b.f0
  · have h2 : ¬ a.f0 = b.f0 := by omega
    simp [h1, h2]
  · by_cases h2 : a.f0 = b.f0
    · simp only [h2, if_true, Int.lt_irrefl, if_false, gt_iff_lt]
      by_cases h5 : a.f1 < b.f1
      · have h6 : ¬ a.f1 = b.f1 := by omega
        simp [h5, h6]
      · by_cases h6 : a.f1 = b.f1
        · simp [h6, cmpB_lt]
        · have h7 : b.f1 < a.f1 := by omega
          simp [h5, h6, h7]
    · have h3 : a.f0 > b.f0 := by omega
      simp [h1, h2, h3]
theorem byV_zero (a b : iV) : (byV a b == 0) = (a.f0 == b.f0 && (a.f1 == b.f1 && (a.f2.toList == b.f2.toList))) := by
  unfold byV
  by_cases h1 : a.f0 < b.f0
  · have h2 : ¬ a.f0 = b.f0 := by omega
    simp [h1, h2]
  · by_cases h2 : a.f0 = b.f0
    · simp only [h2, Int.lt_irrefl, if_false, gt_iff_lt]
      by_cases h5 : a.f1 < b.f1
      · have h6 : ¬ a.f1 = b.f1 := by omega
        simp [h5, h6]
      · by_cases h6 : a.f1 = b.f1
        · simp only [h6, Int.lt_irrefl, if_false, cmpB_zero, beq_self_eq_true, Bool.true_and]
        · have h7 : b.f1 < a.f1 := by omega
          simp [h5, h6, h7]
    · have h3 : a.f0 > b.f0 := by omega
      simp [h1, h2, h3]
theorem spec_ValueSame_eq (a b : iV) : spec_ValueSame.f a.f0 a.f1 a.f2 b.f0 b.f1 b.f2 = some (byV a b == 0) := by
  rw [byV_zero]; rfl
end Go.Proofs.Ytcedikpkbgofhaa.P
end
section
set_option linter.unusedSimpArgs false
set_option linter.unusedVariables false
namespace Go.Proofs.Ytcedikpkbgofhaa.P
open Go.RowKit Go.Proofs.YtcedikpkbgofhaaW.PrintWords Go.Proofs.YtcedikpkbgofhaaW.PrintLast Go.Proofs.YtcedikpkbgofhaaZ
def byT : List iV → List iV → Int
  | [], [] => 0
  | [], _ :: _ => -1
  | _ :: _, [] => 1
  | a :: x, b :: y => if byV a b = 0 then byT x y else byV a b
theorem drop_get {α : Type _} {l : List α} {i : Nat} (h : i < l.length) : l.drop i = l[i] :: l.drop (i + 1) := List.drop_eq_getElem_cons h
theorem rdV_get {l : List iV} {i : Nat} (h : i < l.length) : rd_T37 l (i : Int) = l[i] := getD_get (List.getElem?_eq_getElem h)
theorem impl_cmpT_ev (x y : List iV) (hx : x.length ≤ 9223372036854775807) : ∀ i : Nat, i ≤ x.length → Ev (fun k => impl_Value_51_52.l0 k x y x (x.length : Int) (i : Int)) (byT (x.drop i) (y.drop i)) := by
  refine back ?_ fun i hi ih => ?_
  · refine Ev.shift ?_
    simp only [impl_Value_51_52.l0, Int.lt_irrefl, if_false, List.drop_length]
    by_cases h : x.length < y.length
    · have h2 : (x.length : Int) < (y.length : Int) := by omega
      simp only [h2, if_true, drop_get h, byT]
      exact Ev.now _
    · have h2 : ¬ (x.length : Int) < (y.length : Int) := by omega
      rw [List.drop_eq_nil_of_le (by omega)]
      simp only [h2, if_false, byT]
      exact Ev.now _
  · have h0 : (0 : Int) ≤ (i : Int) := by omega
    have h1 : (i : Int) < (x.length : Int) := by omega
    refine Ev.shift ?_
    rw [drop_get hi]
    by_cases h : i < y.length
    · have h2 : (i : Int) < (y.length : Int) := by omega
      have h3 : ¬ (i : Int) ≥ (y.length : Int) := by omega
      simp only [impl_Value_51_52.l0, h0, h1, h2, h3, if_true, if_false, rdV_get hi, rdV_get h]
      refine Ev.bind (impl_byValue_ev x[i] y[i]) ?_
      rw [drop_get h]
      simp only [byT]
      by_cases h4 : byV x[i] y[i] = 0
      · simp only [h4, if_true, succ64 hi hx]
        exact ih
      · simp only [h4, if_false]
        exact Ev.now _
    · have h3 : (i : Int) ≥ (y.length : Int) := by omega
      rw [List.drop_eq_nil_of_le (show y.length ≤ i by omega)]
      simp only [impl_Value_51_52.l0, h0, h1, h3, if_true, byT]
      exact Ev.now _
theorem impl_TupleLess_ev (x y : List iV) (hx : x.length ≤ 9223372036854775807) : Ev (fun k => impl_TupleLess.f k x y) (decide (byT x y < 0)) := by
  simp only [impl_TupleLess.f, impl_Value_51_52.f]
  refine Ev.bind (impl_cmpT_ev x y hx 0 (Nat.zero_le _)) ?_
  exact Ev.now _
theorem spec_TupleLess_ev (x y : List iV) (hx : x.length ≤ 9223372036854775807) : Ev (fun k => spec_TupleLess.f k x y) (decide (byT x y < 0)) := by
  simp only [spec_TupleLess.f]
  refine back (n := x.length) (Q := fun i => Ev (fun k => spec_TupleLess.l0 k x y (i : Int)) (decide (byT (x.drop i) (y.drop i) < 0))) ?_ (fun i hi ih => ?_) 0 (Nat.zero_le _)
  · refine Ev.shift ?_
    simp only [spec_TupleLess.l0, Int.lt_irrefl, if_false, List.drop_length]
    refine Ev.shift ?_
    simp only [spec_TupleLess.j1, Bool.false_eq_true, if_false]
    refine Ev.val ?_
    by_cases h : x.length < y.length
    · have h2 : (x.length : Int) < (y.length : Int) := by omega
      rw [drop_get h]
      simp only [h2, byT]
      simp
    · have h2 : ¬ (x.length : Int) < (y.length : Int) := by omega
      rw [List.drop_eq_nil_of_le (by omega)]
      simp [h2, byT]
  · have h0 : (0 : Int) ≤ (i : Int) := by omega
    have h1 : (i : Int) < (x.length : Int) := by omega
    refine Ev.shift ?_
    rw [drop_get hi]
    simp only [spec_TupleLess.l0, h1, if_true]
    refine Ev.shift ?_
    by_cases h : i < y.length
    · have h2 : (i : Int) < (y.length : Int) := by omega
      rw [drop_get h]
      simp only [spec_TupleLess.j1, h0, h1, h2, decide_true, if_true, rdV_get hi, rdV_get h, spec_ValueSame_eq, spec_ValueLess_eq, Option.bind_some, byT]
      by_cases h4 : byV x[i] y[i] = 0
      · simp only [h4, beq_self_eq_true, if_true, succ64 hi hx]
        exact ih
      · simp only [h4, beq_iff_eq, if_false]
        exact Ev.now _
    · have h3 : ¬ (i : Int) < (y.length : Int) := by omega
      have h5 : ¬ (x.length : Int) < (y.length : Int) := by omega
      rw [List.drop_eq_nil_of_le (show y.length ≤ i by omega)]
      simp only [spec_TupleLess.j1, h3, h5, decide_false, Bool.false_eq_true, if_false, byT]
      exact Ev.val (by simp)
end Go.Proofs.Ytcedikpkbgofhaa.P
end
section
set_option linter.unusedSimpArgs false
set_option linter.unusedVariables false
namespace Go.Proofs.Ytcedikpkbgofhaa.P
open Go.RowKit Go.Proofs.YtcedikpkbgofhaaW.PrintWords Go.Proofs.YtcedikpkbgofhaaW.PrintLast Go.Proofs.YtcedikpkbgofhaaW.PrintMore Go.Proofs.YtcedikpkbgofhaaZ
def cmpI : List Int → List Int → Int
  | [], [] => 0
  | [], _ :: _ => -1
  | _ :: _, [] => 1
  | a :: x, b :: y => if a < b then -1 else if b < a then 1 else cmpI x y
def isY (x : List Int) : Prop := ∀ b ∈ x, 0 ≤ b ∧ b < 256
theorem u8_lt {a b : Int} (ha : 0 ≤ a ∧ a < 256) (hb : 0 ≤ b ∧ b < 256) : (UInt8.ofNat a.toNat < UInt8.ofNat b.toNat) ↔ a < b := by
  rw [UInt8.lt_iff_toNat_lt, UInt8.toNat_ofNat', UInt8.toNat_ofNat']
  omega
theorem cmpI_bytes : ∀ (x y : List Int), isY x → isY y → Lib.compareBytes (strOfNums x).toList (strOfNums y).toList = cmpI x y := by
  intro x
  simp only [ByteArray.toList_eq, strOfNums_data]
  induction x with
  | nil => intro y _ _; cases y <;> rfl
  | cons a x ih =>
    intro y hx hy
    cases y with
    | nil => rfl
    | cons b y =>
      have ha := hx a (by simp)
      have hb := hy b (by simp)
      simp only [List.map_cons, Lib.compareBytes, cmpI]
      by_cases h1 : a < b
      · rw [if_pos ((u8_lt ha hb).mpr h1), if_pos h1]
      · rw [if_neg (fun h => h1 ((u8_lt ha hb).mp h)), if_neg h1]
        by_cases h2 : b < a
        · rw [if_pos ((u8_lt hb ha).mpr h2), if_pos h2]
        · rw [if_neg (fun h => h2 ((u8_lt hb ha).mp h)), if_neg h2]
          exact ih y (fun z hz => hx z (by simp [hz])) (fun z hz => hy z (by simp [hz]))
def sg (a b : Int) : Int := if a < b then -1 else if b < a then 1 else 0
theorem cmpI_cons (a b : Int) (x y : List Int) : cmpI (a :: x) (b :: y) = if sg a b = 0 then cmpI x y else sg a b := by
  unfold sg
  simp only [cmpI]
  by_cases h1 : a < b
  · simp [h1]
  · by_cases h2 : b < a
    · simp [h1, h2]
    · simp [h1, h2]
theorem be_order (v w : Int) (hv : 0 ≤ v) (hw : 0 ≤ w) (x y : List Int) : ∀ j : Nat, v / 2 ^ (8 * j) = w / 2 ^ (8 * j) →
    cmpI (be v j ++ x) (be w j ++ y) = if sg v w = 0 then cmpI x y else sg v w := by
  intro j
  induction j with
  | zero =>
    intro h
    have e : v = w := by simpa using h
    subst e
    have : sg v v = 0 := by unfold sg; simp
    simp only [be, List.nil_append, this, if_true]
  | succ j ih =>
    intro h
    simp only [be, List.cons_append, cmpI_cons]
    have h2 : (2 : Int) ^ (8 * (j + 1)) = 2 ^ (8 * j) * 256 := by rw [Nat.mul_add, Int.pow_add]; rfl
    rw [h2, ← Int.ediv_ediv_of_nonneg (Int.le_of_lt (Int.pow_pos (by decide))), ← Int.ediv_ediv_of_nonneg (Int.le_of_lt (Int.pow_pos (by decide)))] at h
    by_cases he : v / 2 ^ (8 * j) = w / 2 ^ (8 * j)
    · have : sg (v / 2 ^ (8 * j) % 256) (w / 2 ^ (8 * j) % 256) = 0 := by rw [he]; unfold sg; simp
      rw [if_pos this]
      exact ih he
    · have hp : (0 : Int) < 2 ^ (8 * j) := Int.pow_pos (by decide)
      have hne : ¬ v / 2 ^ (8 * j) % 256 = w / 2 ^ (8 * j) % 256 := by omega
      have hs : sg (v / 2 ^ (8 * j) % 256) (w / 2 ^ (8 * j) % 256) = sg v w := by
        unfold sg
        by_cases h3 : v / 2 ^ (8 * j) < w / 2 ^ (8 * j)
        · have h4 : v < w := by
            apply Classical.byContradiction
            intro hn
            have := Int.ediv_le_ediv hp (show w ≤ v by omega)
            omega
          rw [if_pos (by omega), if_pos h4]
        · have h5 : w < v := by
            apply Classical.byContradiction
            intro hn
            have := Int.ediv_le_ediv hp (show v ≤ w by omega)
            omega
          rw [if_neg (by omega), if_pos (by omega), if_neg (by omega), if_pos h5]
      have hz : ¬ sg v w = 0 := by
        rw [← hs]; unfold sg
        by_cases h3 : v / 2 ^ (8 * j) % 256 < w / 2 ^ (8 * j) % 256
        · rw [if_pos h3]; decide
        · rw [if_neg h3, if_pos (by omega)]; decide
      rw [hs, if_neg hz, if_neg hz]
theorem esc_order : ∀ (a b x y : List Int), isY a → isY b → cmpI (esc a ++ x) (esc b ++ y) = if cmpI a b = 0 then cmpI x y else cmpI a b := by
  intro a
  induction a with
  | nil =>
    intro b x y ha hb
    cases b with
    | nil => simp [esc, cmpI]
    | cons d b =>
      have hd := hb d (by simp)
      simp only [esc, cmpI]
      by_cases hz : d = 0
      · subst hz; simp [cmpI]
      · have : (0 : Int) < d := by omega
        simp [hz, cmpI, this]
  | cons c a ih =>
    intro b x y ha hb
    have hc := ha c (by simp)
    cases b with
    | nil =>
      simp only [esc, cmpI]
      by_cases hz : c = 0
      · subst hz; simp [cmpI]
      · have h1 : (0 : Int) < c := by omega
        have h2 : ¬ c < 0 := by omega
        simp [hz, cmpI, h1, h2]
    | cons d b =>
      have hd := hb d (by simp)
      have h := ih b x y (fun z hz => ha z (by simp [hz])) (fun z hz => hb z (by simp [hz]))
      simp only [esc, List.cons_append, cmpI_cons]
      by_cases h1 : c < d
      · have e : sg c d = -1 := by unfold sg; rw [if_pos h1]
        rw [e]; simp
      · by_cases h2 : d < c
        · have e : sg c d = 1 := by unfold sg; rw [if_neg h1, if_pos h2]
          rw [e]; simp
        · have hcd : c = d := by omega
          subst hcd
          have e : sg c c = 0 := by unfold sg; simp
          simp only [e, if_true]
          by_cases hz : c = 0
          · simp only [hz, if_true, List.cons_append, cmpI_cons]
            have e2 : sg 255 255 = 0 := by unfold sg; simp
            simp only [e2, if_true]
            exact h
          · simp only [hz, if_false]
            exact h
theorem byts_isY (s : ByteArray) : isY (byts s) := fun b hb => by
  obtain ⟨u, _, rfl⟩ := List.mem_map.mp hb
  have := u.toNat_lt
  omega
theorem be_isY (v : Int) : ∀ j, isY (be v j)
  | 0 => fun b hb => by cases hb
  | j + 1 => fun b hb => by
    simp only [be, List.mem_cons] at hb
    rcases hb with rfl | hb
    · omega
    · exact be_isY v j b hb
theorem esc_isY : ∀ l, isY l → isY (esc l)
  | [], _ => fun b hb => by simp only [esc, List.mem_cons, List.not_mem_nil, or_false] at hb; omega
  | x :: r, h => fun b hb => by
    have hx := h x (by simp)
    have hr := esc_isY r (fun z hz => h z (by simp [hz]))
    simp only [esc, List.mem_cons] at hb
    rcases hb with rfl | hb
    · exact hx
    · split at hb
      · simp only [List.mem_cons] at hb
        rcases hb with rfl | hb
        · omega
        · exact hr b hb
      · exact hr b hb
theorem encV_isY (a : iV) : isY (encV a) := fun b hb => by
  unfold encV at hb
  simp only [List.mem_cons] at hb
  rcases hb with rfl | hb
  · omega
  · split at hb
    · simp only [List.mem_cons, List.not_mem_nil, or_false] at hb; omega
    · split at hb
      · exact be_isY _ _ b hb
      · split at hb
        · exact esc_isY _ (byts_isY _) b hb
        · cases hb
theorem encs_isY (l : List iV) : isY (encs l) := fun b hb => by
  obtain ⟨a, _, h⟩ := List.mem_flatMap.mp hb
  exact encV_isY a b h
theorem byts_cmp (s t : ByteArray) : cmpI (byts s) (byts t) = Lib.compareBytes s.toList t.toList := by
  rw [← cmpI_bytes _ _ (byts_isY s) (byts_isY t), byts_str, byts_str]
theorem okV_whole {a : iV} (h : okV a = true) : (a.f0 = 0 ∧ a.f1 = 0 ∧ a.f2.size = 0) ∨ (a.f0 = 1 ∧ 0 ≤ a.f1 ∧ a.f1 ≤ 1 ∧ a.f2.size = 0) ∨ (a.f0 = 2 ∧ -1000000000000 ≤ a.f1 ∧ a.f1 ≤ 1000000000000 ∧ a.f2.size = 0) ∨ (a.f0 = 3 ∧ a.f1 = 0 ∧ a.f2.size ≤ 20) := by
  simp only [okV, Bool.or_eq_true, Bool.and_eq_true, beq_iff_eq, decide_eq_true_eq] at h
  omega
theorem toList_of_size {s : ByteArray} (h : s.size = 0) : s.toList = [] := by
  rw [ByteArray.toList_eq]
  apply List.eq_nil_of_length_eq_zero
  rw [Array.length_toList]
  exact h
theorem byV_eq (a b : iV) : byV a b = if sg a.f0 b.f0 = 0 then (if sg a.f1 b.f1 = 0 then Lib.compareBytes a.f2.toList b.f2.toList else sg a.f1 b.f1) else sg a.f0 b.f0 := by
  unfold byV sg
  by_cases h1 : a.f0 < b.f0
  · simp [h1]
  · by_cases h2 : b.f0 < a.f0
    · simp [h1, h2]
    · by_cases h3 : a.f1 < b.f1
      · simp [h1, h2, h3]
      · by_cases h4 : b.f1 < a.f1
        · simp [h1, h2, h3, h4]
        · simp [h1, h2, h3, h4]
theorem encV_order {a b : iV} (ha : okV a = true) (hb : okV b = true) (x y : List Int) : cmpI (encV a ++ x) (encV b ++ y) = if byV a b = 0 then cmpI x y else byV a b := by
  have ka := okV_whole ha
  have kb := okV_whole hb
  rw [byV_eq]
  unfold encV
  simp only [List.cons_append, cmpI_cons]
  have e0 : sg ((a.f0 + 1) % 256) ((b.f0 + 1) % 256) = sg a.f0 b.f0 := by
    rw [show (a.f0 + 1) % 256 = a.f0 + 1 by omega, show (b.f0 + 1) % 256 = b.f0 + 1 by omega]
    unfold sg
    by_cases h1 : a.f0 < b.f0
    · rw [if_pos (by omega), if_pos h1]
    · by_cases h2 : b.f0 < a.f0
      · rw [if_neg (by omega), if_pos (by omega), if_neg h1, if_pos h2]
      · rw [if_neg (by omega), if_neg (by omega), if_neg h1, if_neg h2]
  rw [e0]
  by_cases hs : sg a.f0 b.f0 = 0
  · have hf : a.f0 = b.f0 := by
      unfold sg at hs
      by_cases h1 : a.f0 < b.f0
      · rw [if_pos h1] at hs; omega
      · rw [if_neg h1] at hs
        by_cases h2 : b.f0 < a.f0
        · rw [if_pos h2] at hs; omega
        · omega
    simp only [hs, if_true]
    have nil0 : Lib.compareBytes [] [] = 0 := rfl
    rcases ka with ⟨k0, k1, k2⟩ | ⟨k0, k1, k2, k3⟩ | ⟨k0, k1, k2, k3⟩ | ⟨k0, k1, k2⟩
    · rcases kb with ⟨j0, j1, j2⟩ | ⟨j0, j1, j2, j3⟩ | ⟨j0, j1, j2, j3⟩ | ⟨j0, j1, j2⟩ <;> try omega
      simp only [k0, j0, k1, j1, toList_of_size k2, toList_of_size j2, nil0, show ¬ (0 : Int) = 1 by decide, show ¬ (0 : Int) = 2 by decide, show ¬ (0 : Int) = 3 by decide, if_false, List.nil_append, show sg 0 0 = 0 from rfl, if_true]
    · rcases kb with ⟨j0, j1, j2⟩ | ⟨j0, j1, j2, j3⟩ | ⟨j0, j1, j2, j3⟩ | ⟨j0, j1, j2⟩ <;> try omega
      simp only [k0, j0, toList_of_size k3, toList_of_size j3, nil0, if_true, List.cons_append, List.nil_append, cmpI_cons, show a.f1 % 256 = a.f1 by omega, show b.f1 % 256 = b.f1 by omega]
      by_cases h : sg a.f1 b.f1 = 0
      · simp only [h, if_true]
      · simp only [h, if_false]
    · rcases kb with ⟨j0, j1, j2⟩ | ⟨j0, j1, j2, j3⟩ | ⟨j0, j1, j2, j3⟩ | ⟨j0, j1, j2⟩ <;> try omega
      simp only [k0, j0, toList_of_size k3, toList_of_size j3, nil0, if_true, if_false, show ¬ (2 : Int) = 1 by decide]
      rw [be_order _ _ (by omega) (by omega) x y 8 (by omega)]
      have e1 : sg (a.f1 + 4611686018427387904) (b.f1 + 4611686018427387904) = sg a.f1 b.f1 := by
        unfold sg
        by_cases h1 : a.f1 < b.f1
        · rw [if_pos (by omega), if_pos h1]
        · by_cases h2 : b.f1 < a.f1
          · rw [if_neg (by omega), if_pos (by omega), if_neg h1, if_pos h2]
          · rw [if_neg (by omega), if_neg (by omega), if_neg h1, if_neg h2]
      rw [e1]
      by_cases h : sg a.f1 b.f1 = 0
      · simp only [h, if_true]
      · simp only [h, if_false]
    · rcases kb with ⟨j0, j1, j2⟩ | ⟨j0, j1, j2, j3⟩ | ⟨j0, j1, j2, j3⟩ | ⟨j0, j1, j2⟩ <;> try omega
      simp only [k0, j0, k1, j1, if_true, if_false, show ¬ (3 : Int) = 1 by decide, show ¬ (3 : Int) = 2 by decide, show sg 0 0 = 0 from rfl]
      rw [esc_order _ _ x y (byts_isY _) (byts_isY _), byts_cmp]
  · simp only [hs, if_false]
theorem encs_order : ∀ (a b : List iV), (∀ v ∈ a, okV v = true) → (∀ v ∈ b, okV v = true) → cmpI (encs a) (encs b) = byT a b := by
  intro a
  induction a with
  | nil =>
    intro b _ hb
    cases b with
    | nil => rfl
    | cons v b =>
      have : encs (v :: b) = encV v ++ encs b := by simp only [encs, List.flatMap_cons]
      rw [this]
      simp only [encV, encs, List.flatMap_nil, List.cons_append, cmpI, byT]
  | cons u a ih =>
    intro b ha hb
    have eu : encs (u :: a) = encV u ++ encs a := by simp only [encs, List.flatMap_cons]
    cases b with
    | nil =>
      rw [eu]
      simp only [encV, encs, List.flatMap_nil, List.cons_append, cmpI, byT]
    | cons v b =>
      have ev : encs (v :: b) = encV v ++ encs b := by simp only [encs, List.flatMap_cons]
      rw [eu, ev, encV_order (ha u (by simp)) (hb v (by simp)), ih b (fun z hz => ha z (by simp [hz])) (fun z hz => hb z (by simp [hz]))]
      simp only [byT]
theorem byV_self (a : iV) : byV a a = 0 := by
  have := byV_zero a a
  simp at this
  exact this
theorem byT_zero : ∀ a b : List iV, byT a b = 0 ↔ a = b := by
  intro a
  induction a with
  | nil => intro b; cases b <;> simp [byT]
  | cons u a ih =>
    intro b
    cases b with
    | nil => simp [byT]
    | cons v b =>
      simp only [byT]
      have hz := byV_zero u v
      by_cases h : byV u v = 0
      · have h2 : (byV u v == 0) = true := by simp [h]
        rw [h2] at hz
        have h3 := hz.symm
        simp only [Bool.and_eq_true, beq_iff_eq] at h3
        have huv : u = v := by
          cases u; cases v
          simp only at h3
          obtain ⟨p, q, r⟩ := h3
          rw [ByteArray.toList_eq, ByteArray.toList_eq] at r
          have h3 := Array.toList_inj.mp r
          simp only [p, q]
          congr 1
          cases ‹ByteArray›; cases ‹ByteArray›
          congr 1
        rw [if_pos h, ih b, List.cons_eq_cons]
        simp [huv]
      · rw [if_neg h, List.cons_eq_cons]
        constructor
        · intro h2; exact absurd h2 h
        · intro h2
          rw [h2.1] at h
          exact absurd (byV_self v) h
theorem less_order {a b : List iV} (ha : okT a = true) (hb : okT b = true) : Op.bytesLess ((strOfNums (tbytes a)).toList) ((strOfNums (tbytes b)).toList) = decide (byT a b < 0) := by
  have ea : tbytes a = encs a := if_pos ha
  have eb : tbytes b = encs b := if_pos hb
  rw [ea, eb, ← cmpB_lt, cmpI_bytes _ _ (encs_isY a) (encs_isY b), encs_order a b (okT_mem ha).1 (okT_mem hb).1]
theorem same_order {a b : List iV} (ha : okT a = true) (hb : okT b = true) {r : Bool} (hr : r = true ↔ a = b) : ((strOfNums (tbytes a)).toList == (strOfNums (tbytes b)).toList) = r := by
  have ea : tbytes a = encs a := if_pos ha
  have eb : tbytes b = encs b := if_pos hb
  rw [ea, eb, ← cmpB_zero, cmpI_bytes _ _ (encs_isY a) (encs_isY b), encs_order a b (okT_mem ha).1 (okT_mem hb).1, Bool.eq_iff_iff, beq_iff_eq, hr]
  exact byT_zero a b
end Go.Proofs.Ytcedikpkbgofhaa.P
end
section
set_option linter.unusedSimpArgs false
set_option linter.unusedVariables false
namespace Go.Proofs.Ytcedikpkbgofhaa.P
open Go.RowKit Go.Proofs.YtcedikpkbgofhaaW.PrintWords Go.Proofs.YtcedikpkbgofhaaW.PrintLast Go.Proofs.YtcedikpkbgofhaaZ
section
variable {α β : Type}
def Got (o : Option α) (P : α → Prop) : Prop := ∃ a, o = some a ∧ P a
theorem Got.bind {o : Option α} {f : α → Option β} {P : α → Prop} {Q : β → Prop} (h : Got o P) (hf : ∀ a, P a → Got (f a) Q) : Got (o.bind f) Q := by
  obtain ⟨a, rfl, hp⟩ := h
  exact hf a hp
theorem Got.now {a : α} {P : α → Prop} (h : P a) : Got (some a) P := ⟨a, rfl, h⟩
theorem Got.pos {p : Prop} [Decidable p] {a b : Option α} {P : α → Prop} (hp : p) (h : Got a P) : Got (if p then a else b) P := by rw [if_pos hp]; exact h
theorem Got.neg {p : Prop} [Decidable p] {a b : Option α} {P : α → Prop} (hp : ¬ p) (h : Got b P) : Got (if p then a else b) P := by rw [if_neg hp]; exact h
theorem Got.ite {p : Prop} [Decidable p] {a b : Option α} {P : α → Prop} (h1 : p → Got a P) (h2 : ¬ p → Got b P) : Got (if p then a else b) P := by
  by_cases h : p
  · exact Got.pos h (h1 h)
  · exact Got.neg h (h2 h)
theorem Got.mono {o : Option α} {P Q : α → Prop} (h : Got o P) (f : ∀ a, P a → Q a) : Got o Q := by obtain ⟨a, h1, h2⟩ := h; exact ⟨a, h1, f a h2⟩
def EvG (g : Nat → Option α) (P : α → Prop) : Prop := ∃ a, Ev g a ∧ P a
theorem EvG.of_got {o : Option α} {P : α → Prop} (h : Got o P) : EvG (fun _ => o) P := by obtain ⟨a, rfl, hp⟩ := h; exact ⟨a, Ev.now _, hp⟩
theorem EvG.now {a : α} {P : α → Prop} (h : P a) : EvG (fun _ => some a) P := ⟨a, Ev.now _, h⟩
theorem EvG.bind {g : Nat → Option α} {f : α → Nat → Option β} {P : α → Prop} {Q : β → Prop} (h : EvG g P) (hf : ∀ a, P a → EvG (f a) Q) : EvG (fun k => (g k).bind fun a => f a k) Q := by
  obtain ⟨a, h1, hp⟩ := h
  obtain ⟨b, h2, hq⟩ := hf a hp
  exact ⟨b, Ev.bind h1 h2, hq⟩
theorem EvG.shift {g : Nat → Option α} {P : α → Prop} (h : EvG (fun k => g (k + 1)) P) : EvG g P := by obtain ⟨a, h1, hp⟩ := h; exact ⟨a, Ev.shift h1, hp⟩
theorem EvG.pos {p : Prop} [Decidable p] {a b : Nat → Option α} {P : α → Prop} (hp : p) (h : EvG a P) : EvG (fun k => if p then a k else b k) P := by simp only [hp, if_true]; exact h
theorem EvG.neg {p : Prop} [Decidable p] {a b : Nat → Option α} {P : α → Prop} (hp : ¬ p) (h : EvG b P) : EvG (fun k => if p then a k else b k) P := by simp only [hp, if_false]; exact h
theorem EvG.ite {p : Prop} [Decidable p] {a b : Nat → Option α} {P : α → Prop} (h1 : p → EvG a P) (h2 : ¬ p → EvG b P) : EvG (fun k => if p then a k else b k) P := by
  by_cases h : p
  · exact EvG.pos h (h1 h)
  · exact EvG.neg h (h2 h)
theorem EvG.mono {g : Nat → Option α} {P Q : α → Prop} (h : EvG g P) (f : ∀ a, P a → Q a) : EvG g Q := by obtain ⟨a, h1, h2⟩ := h; exact ⟨a, h1, f a h2⟩
end
end Go.Proofs.Ytcedikpkbgofhaa.P
end
section
set_option linter.unusedSimpArgs false
set_option linter.unusedVariables false
namespace Go.Proofs.Ytcedikpkbgofhaa.P
open Go.RowKit Go.Proofs.YtcedikpkbgofhaaW.PrintWords Go.Proofs.YtcedikpkbgofhaaW.PrintLast Go.Proofs.YtcedikpkbgofhaaZ
def okC (b : List Int) (i : Int) : Prop := b.length ≤ 1048576 ∧ 0 ≤ i ∧ i ≤ (b.length : Int)
theorem and255_all (n : Int) : Go.bits .and .i64 n 255 = n % 256 := by
  have h255 : (BitVec.ofInt 64 255).toNat = 2 ^ 8 - 1 := by decide
  have key : (BitVec.ofInt 64 n &&& BitVec.ofInt 64 255).toNat = (n % ((2 ^ 64 : Nat) : Int)).toNat % 2 ^ 8 := by
    rw [BitVec.toNat_and, BitVec.toNat_ofInt, h255, Nat.and_two_pow_sub_one_eq_mod]
  show IntKind.i64.wrap ((BitVec.ofInt 64 n &&& BitVec.ofInt 64 255).toNat : Nat) = n % 256
  rw [key, IntKind.wrap_i64]
  omega
theorem l1Byte_got {b : List Int} {i : Int} (h : okC b i) (c : Int) : Got (spec_l1Byte.f b i c) (fun r => 0 ≤ r.1 ∧ r.1 ≤ 255 ∧ okC b r.2.1) := by
  obtain ⟨h0, h1, h2⟩ := h
  simp only [spec_l1Byte.f, and255_all]
  refine Got.ite (fun h3 => Got.pos h1 (Got.now ⟨?_, ?_, h0, ?_, ?_⟩)) (fun h3 => Got.now ⟨?_, ?_, h0, h1, h2⟩)
  · show 0 ≤ _ % (256 : Int); omega
  · show _ % (256 : Int) ≤ 255; omega
  · show 0 ≤ wrap64 (i + 1); rw [w64 (by omega) (by omega)]; omega
  · show wrap64 (i + 1) ≤ _; rw [w64 (by omega) (by omega)]; omega
  · show 0 ≤ _ % (256 : Int); omega
  · show _ % (256 : Int) ≤ 255; omega
theorem l1Below_got {b : List Int} {i : Int} (h : okC b i) (c n : Int) : Got (spec_l1Below.f b i c n) (fun r => 0 ≤ r.1 ∧ (0 < n → r.1 < n) ∧ (n ≤ 0 → r.1 = 0) ∧ okC b r.2.1) := by
  simp only [spec_l1Below.f]
  refine Got.ite (fun h1 => Got.now ⟨Int.le_refl 0, fun h2 => by omega, fun _ => rfl, h⟩) (fun h1 => ?_)
  have hn : ¬ n = 0 := by omega
  refine Got.ite (fun h2 => ?_) (fun h2 => ?_)
  · refine (l1Byte_got h c).bind (fun r hr => Got.neg hn (Got.now ⟨?_, fun _ => ?_, fun _ => by omega, hr.2.2⟩))
    · exact Int.tmod_nonneg _ hr.1
    · exact Int.tmod_lt_of_pos _ (by omega)
  · refine (l1Byte_got h c).bind (fun r1 h1 => (l1Byte_got h1.2.2 _).bind (fun r2 h2 => (l1Byte_got h2.2.2 _).bind (fun r3 h3 => (l1Byte_got h3.2.2 _).bind (fun r4 h4 => Got.neg hn (Got.now ⟨?_, fun _ => ?_, fun _ => by omega, h4.2.2⟩)))))
    · refine Int.tmod_nonneg _ ?_
      have e1 : wrap64 (r1.1 * 16777216) = r1.1 * 16777216 := w64 (by omega) (by omega)
      have e2 : wrap64 (r2.1 * 65536) = r2.1 * 65536 := w64 (by omega) (by omega)
      have e3 : wrap64 (r3.1 * 256) = r3.1 * 256 := w64 (by omega) (by omega)
      rw [e1, e2, e3, w64 (n := r1.1 * 16777216 + r2.1 * 65536) (by omega) (by omega), w64 (n := r1.1 * 16777216 + r2.1 * 65536 + r3.1 * 256) (by omega) (by omega), w64 (by omega) (by omega)]
      omega
    · exact Int.tmod_lt_of_pos _ (by omega)
theorem l1New_evg (b : List Int) (hb : b.length ≤ 1048576) : EvG (fun k => spec_l1New.f k b) (fun r => r.1 = b ∧ r.2.1 = 0) := by
  have key : ∀ i : Nat, i ≤ b.length → ∀ h : Int, EvG (fun k => spec_l1New.l0 k b h (i : Int)) (fun r => r.1 = b ∧ r.2.1 = 0) := by
    refine back ?_ fun i hi ih => ?_
    · intro h
      refine EvG.shift ?_
      simp only [spec_l1New.l0, Int.lt_irrefl, if_false]
      exact EvG.now ⟨rfl, rfl⟩
    · intro h
      have c0 : (0 : Int) ≤ (i : Int) := by omega
      have c1 : (i : Int) < (b.length : Int) := by omega
      refine EvG.shift ?_
      simp only [spec_l1New.l0, c0, c1, if_true, succ64 hi (by omega)]
      refine EvG.ite (fun _ => ih _) (fun _ => EvG.now ⟨rfl, rfl⟩)
  simp only [spec_l1New.f]
  exact key 0 (Nat.zero_le _) _
theorem okC_start {b : List Int} (hb : b.length ≤ 1048576) : okC b 0 := ⟨hb, Int.le_refl _, by omega⟩
end Go.Proofs.Ytcedikpkbgofhaa.P
end
section
set_option linter.unusedSimpArgs false
set_option linter.unusedVariables false
namespace Go.Proofs.Ytcedikpkbgofhaa.P
open Go.RowKit Go.Proofs.YtcedikpkbgofhaaW.PrintWords Go.Proofs.YtcedikpkbgofhaaW.PrintLast Go.Proofs.YtcedikpkbgofhaaZ
theorem l1Once_got {b : List Int} {i : Int} (h : okC b i) (c n : Int) : Got (spec_l1Once.f b i c n) (fun r => okC b r.2.1) := by
  simp only [spec_l1Once.f]
  exact (l1Below_got h c n).bind (fun r hr => Got.now hr.2.2.2)
theorem l1PickInt_got {b : List Int} {i : Int} (h : okC b i) (c : Int) (l : List Int) (hl : l ≠ []) : Got (spec_l1PickInt.f b i c l) (fun r => r.1 ∈ l ∧ okC b r.2.1) := by
  have hp := List.length_pos_iff.mpr hl
  simp only [spec_l1PickInt.f]
  refine (l1Below_got h c _).bind (fun r hr => Got.pos hr.1 (Got.pos (hr.2.1 (by omega)) (Got.now ⟨?_, hr.2.2.2⟩)))
  have h1 := hr.1
  have h2 := hr.2.1 (by omega)
  obtain ⟨n, hn⟩ : ∃ n : Nat, r.1 = (n : Int) := ⟨r.1.toNat, by omega⟩
  have hlt : n < l.length := by omega
  show rd l r.1 ∈ l
  rw [hn, rd_get (List.getElem?_eq_getElem hlt)]
  exact List.getElem_mem hlt
theorem l1Pick_got {b : List Int} {i : Int} (h : okC b i) (c : Int) (l : List ByteArray) (hl : l ≠ []) : Got (spec_l1Pick.f b i c l) (fun r => r.1 ∈ l ∧ okC b r.2.1) := by
  have hp := List.length_pos_iff.mpr hl
  simp only [spec_l1Pick.f]
  refine (l1Below_got h c _).bind (fun r hr => Got.pos hr.1 (Got.pos (hr.2.1 (by omega)) (Got.now ⟨?_, hr.2.2.2⟩)))
  have h1 := hr.1
  have h2 := hr.2.1 (by omega)
  obtain ⟨n, hn⟩ : ∃ n : Nat, r.1 = (n : Int) := ⟨r.1.toNat, by omega⟩
  have hlt : n < l.length := by omega
  show rdOf ByteArray.empty l r.1 ∈ l
  rw [hn]
  have e : rdOf ByteArray.empty l (n : Int) = l[n] := getD_get (List.getElem?_eq_getElem hlt)
  rw [e]
  exact List.getElem_mem hlt
end Go.Proofs.Ytcedikpkbgofhaa.P
end
section
set_option linter.unusedSimpArgs false
set_option linter.unusedVariables false
namespace Go.Proofs.Ytcedikpkbgofhaa.P
open Go.RowKit Go.Proofs.YtcedikpkbgofhaaW.PrintWords Go.Proofs.YtcedikpkbgofhaaW.PrintLast Go.Proofs.YtcedikpkbgofhaaZ
theorem l17DrawOf_got {b : List Int} {i : Int} (h : okC b i) (c n : Int) : Got (spec_l17DrawOf.f b i c n) (fun r => r.2.2.1.size ≤ 22 ∧ okC b r.2.2.2.1) := by
  simp only [spec_l17DrawOf.f]
  refine Got.ite (fun _ => (l1Below_got h c 2).bind (fun r hr => Got.now ⟨by show 0 ≤ 22; decide, hr.2.2.2⟩)) (fun _ => ?_)
  refine Got.ite (fun _ => (l1PickInt_got h c _ (by simp)).bind (fun r hr => Got.now ⟨by show 0 ≤ 22; decide, hr.2⟩)) (fun _ => ?_)
  refine Got.ite (fun _ => (l1Pick_got h c _ (by simp)).bind (fun r hr => Got.now ⟨?_, hr.2⟩)) (fun _ => Got.now ⟨by show 0 ≤ 22; decide, h⟩)
  have h1 := hr.1
  show r.1.size ≤ 22
  simp only [List.mem_cons, List.not_mem_nil, or_false] at h1
  rcases h1 with h | h | h | h | h | h | h | h | h <;> rw [h] <;> decide +kernel
theorem l17DrawRight_got {b : List Int} {i : Int} (h : okC b i) (c : Int) : Got (spec_l17DrawRight.f b i c) (fun r => r.2.2.1.size ≤ 22 ∧ okC b r.2.2.2.1) := by
  simp only [spec_l17DrawRight.f]
  exact (l1Below_got h c 4).bind (fun r hr => (l17DrawOf_got hr.2.2.2 _ _).bind (fun r2 hr2 => Got.now hr2))
theorem l17Draw_got {b : List Int} {i : Int} (h : okC b i) (c : Int) : Got (spec_l17Draw.f b i c) (fun r => r.2.2.1.size ≤ 42 ∧ okC b r.2.2.2.1) := by
  simp only [spec_l17Draw.f]
  refine (l17DrawRight_got h c).bind (fun r hr => (l1Below_got hr.2 _ 12).bind (fun r2 hr2 => ?_))
  refine Got.ite (fun _ => (l1Below_got hr2.2.2.2 _ 6).bind (fun r3 hr3 => Got.now ⟨by have := hr.1; show r.2.2.1.size ≤ 42; omega, hr3.2.2.2⟩)) (fun _ => ?_)
  refine Got.ite (fun _ => (l1PickInt_got hr2.2.2.2 _ _ (by simp)).bind (fun r3 hr3 => Got.now ⟨by have := hr.1; show r.2.2.1.size ≤ 42; omega, hr3.2⟩)) (fun _ => ?_)
  refine Got.ite (fun _ => Got.pos (by have := hr.1; omega) (Got.now ⟨?_, hr2.2.2.2⟩)) (fun _ => Got.now ⟨by have := hr.1; show r.2.2.1.size ≤ 42; omega, hr2.2.2.2⟩)
  have := hr.1
  show (_ ++ _ : ByteArray).size ≤ 42
  rw [ByteArray.size_append]
  show _ + 20 ≤ 42
  omega
end Go.Proofs.Ytcedikpkbgofhaa.P
end
section
set_option linter.unusedSimpArgs false
set_option linter.unusedVariables false
namespace Go.Proofs.Ytcedikpkbgofhaa.P
open Go.RowKit Go.Proofs.YtcedikpkbgofhaaW.PrintWords Go.Proofs.YtcedikpkbgofhaaW.PrintLast Go.Proofs.YtcedikpkbgofhaaZ
theorem l18DrawRight_evg {b : List Int} {i : Int} (h : okC b i) (c : Int) : EvG (fun k => spec_l18DrawRight.f k b i c) (fun r => r.1.length ≤ 5 ∧ okC b r.2.1) := by
  have key : ∀ (n : Nat) (x : List S37) (i c : Int), x.length + n = 5 → okC b i → EvG (fun k => spec_l18DrawRight.l0 k x (x.length : Int) b i c) (fun r => r.1.length ≤ 5 ∧ okC b r.2.1) := by
    intro n
    induction n with
    | zero =>
      intro x i c hx hc
      refine EvG.shift ?_
      simp only [spec_l18DrawRight.l0]
      refine EvG.bind (EvG.of_got (l1Below_got hc c 5)) (fun r hr => EvG.neg ?_ (EvG.now ⟨by show x.length ≤ 5; omega, hr.2.2.2⟩))
      have := hr.2.1 (by decide)
      omega
    | succ n ih =>
      intro x i c hx hc
      refine EvG.shift ?_
      simp only [spec_l18DrawRight.l0]
      refine EvG.bind (EvG.of_got (l1Below_got hc c 5)) (fun r hr => EvG.ite (fun _ => ?_) (fun _ => EvG.now ⟨by show x.length ≤ 5; omega, hr.2.2.2⟩))
      refine EvG.bind (EvG.of_got (l17DrawRight_got hr.2.2.2 _)) (fun r2 hr2 => EvG.pos (by omega) ?_)
      have h2 := ih (x ++ [⟨r2.1, r2.2.1, r2.2.2.1⟩]) r2.2.2.2.1 r2.2.2.2.2 (by simp only [List.length_append, List.length_cons, List.length_nil]; omega) hr2.2
      have e : (((x ++ [(⟨r2.1, r2.2.1, r2.2.2.1⟩ : S37)]).length : Nat) : Int) = wrap64 ((x.length : Int) + 1) := by
        rw [w64 (by omega) (by omega)]
        simp only [List.length_append, List.length_cons, List.length_nil]
        omega
      rw [e] at h2
      exact h2
  simp only [spec_l18DrawRight.f]
  exact key 5 [] i c rfl h
theorem l18Draw_evg {b : List Int} {i : Int} (h : okC b i) (c : Int) : EvG (fun k => spec_l18Draw.f k b i c) (fun r => r.1.length ≤ 6 ∧ okC b r.2.1) := by
  simp only [spec_l18Draw.f]
  refine EvG.bind (l18DrawRight_evg h c) (fun r hr => EvG.bind (EvG.of_got (l1Once_got hr.2 _ 6)) (fun r2 hr2 => EvG.ite (fun _ => ?_) (fun _ => EvG.now ⟨by have := hr.1; show r.1.length ≤ 6; omega, hr2⟩)))
  refine EvG.bind (EvG.of_got (l17Draw_got hr2 _)) (fun r3 hr3 => EvG.pos (by have := hr.1; omega) (EvG.now ⟨?_, hr3.2⟩))
  have := hr.1
  show (r.1 ++ _).length ≤ 6
  simp only [List.length_append, List.length_cons, List.length_nil]
  omega
end Go.Proofs.Ytcedikpkbgofhaa.P
end
section
set_option linter.unusedSimpArgs false
set_option linter.unusedVariables false
namespace Go.Proofs.Ytcedikpkbgofhaa.P
open Go.RowKit Go.Proofs.YtcedikpkbgofhaaW.PrintWords Go.Proofs.YtcedikpkbgofhaaW.PrintLast Go.Proofs.YtcedikpkbgofhaaZ
theorem val_eq_iff (a b : iV) : a = b ↔ (a.f0 = b.f0 ∧ a.f1 = b.f1 ∧ a.f2.toList = b.f2.toList) := by
  constructor
  · intro h; subst h; exact ⟨rfl, rfl, rfl⟩
  · intro ⟨h0, h1, h2⟩
    cases a; cases b
    simp only at h0 h1 h2
    rw [ByteArray.toList_eq, ByteArray.toList_eq] at h2
    have h3 := Array.toList_inj.mp h2
    simp only [h0, h1]
    congr 1
    cases ‹ByteArray›; cases ‹ByteArray›
    congr 1
theorem sameTuple_ev (x y : List iV) (hx : x.length ≤ 9223372036854775807) : ∃ r : Bool, (r = true ↔ x = y) ∧ Ev (fun k => laws_sameTuple.f k x y) r := by
  simp only [laws_sameTuple.f]
  by_cases h : (x.length : Int) = (y.length : Int)
  · have hl : x.length = y.length := by omega
    simp only [h, if_true]
    have key : ∀ i : Nat, i ≤ x.length → ∃ r : Bool, (r = true ↔ x.drop i = y.drop i) ∧ Ev (fun k => laws_sameTuple.l0 k x y (i : Int)) r := by
      refine back ?_ fun i hi ih => ?_
      · refine ⟨true, ?_, Ev.shift ?_⟩
        · rw [List.drop_length, List.drop_eq_nil_of_le (by omega)]; simp
        · simp only [laws_sameTuple.l0, Int.lt_irrefl, if_false]
          exact Ev.now _
      · obtain ⟨r, h1, h2⟩ := ih
        have hy : i < y.length := by omega
        have c0 : (0 : Int) ≤ (i : Int) := by omega
        have c1 : (i : Int) < (x.length : Int) := by omega
        have c2 : (i : Int) < (y.length : Int) := by omega
        have ex : rd_T37 x (i : Int) = x[i] := getD_get (List.getElem?_eq_getElem hi)
        have ey : rd_T37 y (i : Int) = y[i] := getD_get (List.getElem?_eq_getElem hy)
        have hd : (x.drop i = y.drop i) ↔ (x[i] = y[i] ∧ x.drop (i + 1) = y.drop (i + 1)) := by
          rw [List.drop_eq_getElem_cons hi, List.drop_eq_getElem_cons hy]
          exact List.cons_eq_cons
        by_cases he : x[i] = y[i]
        · refine ⟨r, ?_, Ev.shift ?_⟩
          · rw [h1, hd]; simp [he]
          · simp only [laws_sameTuple.l0, c0, c1, c2, if_true, ex, ey, he, beq_self_eq_true, Bool.not_true, Bool.or_false, Bool.false_eq_true, if_false, succ64 hi hx]
            exact h2
        · refine ⟨false, ?_, Ev.shift ?_⟩
          · rw [hd]; simp [he]
          · have hne : (!(x[i].f0 == y[i].f0) || (!(x[i].f1 == y[i].f1) || !(x[i].f2.toList == y[i].f2.toList))) = true := by
              rw [val_eq_iff] at he
              cases c : (x[i].f0 == y[i].f0)
              · simp
              · cases c' : (x[i].f1 == y[i].f1)
                · simp
                · cases c'' : (x[i].f2.toList == y[i].f2.toList)
                  · simp
                  · exact absurd ⟨by simpa using c, by simpa using c', by simpa using c''⟩ he
            simp only [laws_sameTuple.l0, c0, c1, c2, if_true, ex, ey, hne]
            exact Ev.now _
    exact key 0 (Nat.zero_le _)
  · refine ⟨false, ?_, ?_⟩
    · constructor
      · intro h; cases h
      · intro e; rw [e] at h; exact absurd rfl h
    · simp only [h, if_false]
      exact Ev.now _
end Go.Proofs.Ytcedikpkbgofhaa.P
end
section
set_option linter.unusedSimpArgs false
set_option linter.unusedVariables false
namespace Go.Proofs.Ytcedikpkbgofhaa.P
open Go.RowKit Go.Proofs.YtcedikpkbgofhaaW.PrintWords Go.Proofs.YtcedikpkbgofhaaW.PrintLast Go.Proofs.YtcedikpkbgofhaaZ
theorem drawTupleLess_evg (b : List Int) (hb : b.length ≤ 1048576) : EvG (fun k => spec_DrawTupleLess.f k b) (fun r => r.1.length ≤ 7 ∧ r.2.length ≤ 7) := by
  simp only [spec_DrawTupleLess.f]
  refine EvG.bind (l1New_evg b hb) (fun r hr => ?_)
  have hc : okC r.1 r.2.1 := by rw [hr.1, hr.2]; exact okC_start hb
  refine EvG.bind (l18Draw_evg hc _) (fun r2 hr2 => ?_)
  have hl2 := hr2.1
  simp only [Option.bind_some, List.nil_append, List.length_nil]
  refine EvG.pos (by omega) ?_
  refine EvG.bind (EvG.of_got (l1Below_got hr2.2 _ 4)) (fun r3 hr3 => ?_)
  refine EvG.ite (fun _ => EvG.now ⟨by show r2.1.length ≤ 7; omega, by show r2.1.length ≤ 7; omega⟩) (fun _ => ?_)
  refine EvG.ite (fun _ => EvG.bind (EvG.of_got (l17DrawRight_got hr3.2.2.2 _)) (fun r4 hr4 => EvG.pos (by omega) (EvG.now ⟨by show r2.1.length ≤ 7; omega, ?_⟩))) (fun _ => ?_)
  · show (r2.1 ++ _).length ≤ 7
    simp only [List.length_append, List.length_cons, List.length_nil]; omega
  refine EvG.ite (fun _ => ?_) (fun _ => ?_)
  · refine EvG.ite (fun hp => ?_) (fun _ => EvG.now ⟨by show r2.1.length ≤ 7; omega, by show r2.1.length ≤ 7; omega⟩)
    refine EvG.bind (EvG.of_got (l17DrawRight_got hr3.2.2.2 _)) (fun r4 hr4 => ?_)
    have hw : wrap64 ((r2.1.length : Int) - 1) = (r2.1.length : Int) - 1 := w64 (by omega) (by omega)
    rw [hw]
    refine EvG.pos (by omega) (EvG.pos (by omega) (EvG.now ⟨by show r2.1.length ≤ 7; omega, ?_⟩))
    show (r2.1.set _ _).length ≤ 7
    rw [List.length_set]; omega
  · refine EvG.bind (l18Draw_evg hr3.2.2.2 _) (fun r4 hr4 => EvG.now ⟨by show r2.1.length ≤ 7; omega, by have := hr4.1; show r4.1.length ≤ 7; omega⟩)
theorem pureFnTupleOrder : PureFnTupleOrder := by
  intro x hx
  refine Ev.rounds ?_
  simp only [laws_FnTupleOrder.f, laws_big.f, Option.bind_some]
  by_cases hp : (x.length : Int) > 1048576
  · simp only [hp, decide_true, if_true]; exact Ev.now _
  · simp only [hp, decide_false, Bool.false_eq_true, if_false]
    obtain ⟨⟨a, b⟩, h1, h2, h3⟩ := drawTupleLess_evg x (by omega)
    simp only at h2 h3
    have ha : a.length ≤ 9223372036854775807 := by omega
    have hb : b.length ≤ 9223372036854775807 := by omega
    refine Ev.bind h1 (Ev.bind (impl_TupleLess_ev a b ha) (Ev.bind (spec_TupleLess_ev a b ha) ?_))
    simp only [bne_self_eq_false, Bool.false_eq_true, if_false]
    refine Ev.bind (impl_TupleOk_ev a ha) ?_
    by_cases oa : okT a = true
    · simp only [oa, if_true]
      refine Ev.bind (impl_TupleOk_ev b hb) ?_
      by_cases ob : okT b = true
      · simp only [ob, Bool.not_true]
        refine Ev.shift ?_
        simp only [laws_FnTupleOrder.j0, Bool.false_eq_true, if_false]
        refine Ev.bind (impl_TupleBytes_ev a ha) (Ev.bind (impl_TupleBytes_ev b hb) ?_)
        simp only [less_order oa ob, less_order ob oa, beq_self_eq_true, if_true]
        refine Ev.bind (impl_TupleLess_ev b a hb) ?_
        simp only [beq_self_eq_true, if_true]
        obtain ⟨r, hr, hs⟩ := sameTuple_ev a b ha
        refine Ev.bind hs ?_
        rw [same_order oa ob hr]
        exact Ev.val (by simp)
      · have ob' : okT b = false := by simpa using ob
        simp only [ob', Bool.not_false]
        refine Ev.shift ?_
        simp only [laws_FnTupleOrder.j0, if_true]
        exact Ev.now _
    · simp only [oa, if_false]
      refine Ev.shift ?_
      simp only [laws_FnTupleOrder.j0, if_true]
      exact Ev.now _
end Go.Proofs.Ytcedikpkbgofhaa.P
end
namespace Go.Proofs.Ytcedikpkbgofhaa.fnTupleOrder
open Go.ChangeShapes Go.WideShapes Go.ChangeAt Go.RowKit Go.Proofs.YtcedikpkbgofhaaW.PrintWords Go.Proofs.YtcedikpkbgofhaaW.PrintLast Go.Proofs.YtcedikpkbgofhaaZ Go.Proofs.Ytcedikpkbgofhaa.P
open Go.ChangeMaps (open_string shut_string)
set_option linter.unusedVariables false
theorem own : ownKnob Try.prog.godebug = none := by kernel_rfl
theorem laidOut : laidOutB Try.prog = true := by kernel_rfl
set_option maxRecDepth 100000 in
theorem lifted (os : Os) (started : os.Started) (H : Type) (enc : TypeId × Value → H) :
    ReturnsInHanded {} Try.checked os 3 .any (Rows.fnTupleOrderSpec.pre6 enc Try.prog Try.f3 Rows.fnTupleOrderRow.domain false) (Rows.fnTupleOrderSpec.post enc Try.prog Try.f3 false true false false) := by
  refine returnsInHanded_of_change_sized (C := Try.checked) own started (by kernel_rfl) Try.func3
    (ChangeSpec.witness6 (enc := enc) (C := Try.checked) false ⟨#[], #[.slice none 0 0], []⟩ 8 (by kernel_rfl) (by kernel_rfl) (by kernel_rfl) (by kernel_rfl)) ?_
  intro W base args ds gs before hval0 hW hcnd hsz0 _
  have hval : ∀ (j : Nat) t v, Try.f3.params[j]? = some t → args[j]? = some v → Value.okWide Try.prog W .any base t v := hval0
  have hW' := hW
  obtain ⟨p, q, hA0, hV, rfl, hfz, hnd⟩ := hW
  have hA : DataW.TrodAll enc Try.prog W 0 (fun _ => true) true Try.f3.params.toList args.toList ds p := hA0
  rw [Try.params3] at hA hval
  obtain ⟨v0, vs0, d0, ds0, p0, q0, hargs, rfl, rfl, h0, r0⟩ := trodAll_cons hA
  obtain ⟨rfl, rfl, rfl⟩ := trodAll_nil r0
  obtain rfl : args = #[v0] := by cases args; simp_all
  obtain ⟨rfl, rfl⟩ := trodVars_none hV
  have k0_ := h0
  have lt0 : ∀ x ∈ p0, x.block < W.heap.size := by obtain ⟨m, hm⟩ := k0_; exact DataW.trod_lt m _ _ _ hm
  obtain ⟨a0_, len0_, cap0_, rfl⟩ := okWide_slice Try.underlying22 (hval 0 22 v0 rfl rfl)
  obtain ⟨x0, K0, wf0_⟩ := Opens.param (Opens.slice 5 Try.underlying22 (by kernel_rfl) (Opens.int Try.underlying5)) h0
  obtain ⟨A0, c0, e0, l0, g0⟩ := K0
  simp [Value.cells] at e0
  obtain ⟨rfl, rfl, rfl⟩ := e0
  obtain ⟨k, hk⟩ := pureFnTupleOrder x0 wf0_
  clear hA0 hval0 hsz0
  refine (laws_FnTupleOrder.calls k _ _ x0 true W g0 l0 hk).mono fun e W' hh => ?_
  obtain ⟨he, bel0⟩ := hh
  have bel : Below W.heap.size W W' := bel0
  subst he
  exact ⟨_, rfl, _, _, _, [], _, [], hW', trodAll_mk1 (shut_bool Try.underlying4 _), (trodAll_cons_mk (Below.trod laidOut (by kernel_rfl) (of_decide_eq_true (by kernel_rfl)) k0_ bel lt0) trodAll_mk0), rfl, bel.frame _, fun h => by cases h⟩
theorem over : Rows.fnTupleOrderRow.holds Try.pinned (OpenSpec.ofChange Rows.fnTupleOrderSpec) :=
  OpenClaim.holds_of_wide 3 Try.f3 rfl rfl rfl rfl rfl rfl rfl ⟨rfl, rfl, rfl, rfl, rfl⟩ rfl rfl rfl rfl rfl (by kernel_rfl) Try.func3 (by kernel_rfl)
    (of_decide_eq_true (by kernel_rfl)) (by unfold Func.isWrapper; first | (rw [if_pos (by decide +kernel)]; kernel_rfl) | (rw [if_neg (by decide +kernel)]; exact ⟨rfl, rfl⟩))
    (fun os started H enc _ => lifted os started H enc)
theorem proved : Rows.FnTupleOrderSaid := over
#print axioms proved
end Go.Proofs.Ytcedikpkbgofhaa.fnTupleOrder
namespace Go.Proofs.Ytcedikpkbgofhaa
theorem fnTupleOrder_holds : Rows.FnTupleOrderSaid := fnTupleOrder.proved
end Go.Proofs.Ytcedikpkbgofhaa

/- The law FnProjects holds: for every input the call returns true, and each argument reads afterwards as_ it read before. Conditions: none. Written by a program of this session. -/
import Derived.OpenShut
import Derived.DataElems
import Derived.DataReads
import Derived.Laws.BitsLemmas
import Derived.Test.YtcedikpkbgofhaaRows
import Derived.WalkKit
import Derived.ProofKit
import Derived.ShutString
import Derived.ChangeOld
import Derived.Below
import Derived.SizedLaws
import Derived.Carry
import Derived.Test.YtcedikpkbgofhaaPkFnProjects1
namespace Go.Proofs.Ytcedikpkbgofhaa.P
open Go.RowKit Go.Proofs.YtcedikpkbgofhaaW.PrintWords Go.Proofs.YtcedikpkbgofhaaW.PrintLast Go.Proofs.YtcedikpkbgofhaaW.PrintMore
attribute [local go_sem] max2_int min2_int max_two min_two max_three min_three max_four min_four   -- for this text's walks alone
set_option linter.unusedVariables false
set_option linter.unusedSimpArgs false
def laws_FnProjects.f (k : Nat) (l0 : List Int) : Option (Bool) := (laws_big.f l0).bind fun t101 => (if t101 = true then (some true) else ((spec_DrawProject.f k l0).bind fun bt102 => ((impl_Project.f k bt102.1 bt102.2).bind fun t108 => ((spec_Project.f k bt102.1 bt102.2).bind fun t111 => ((laws_sameTuple.f k t108 t111).bind fun t114 => (if t114 = true then ((laws_at.f l0 1).bind fun t115 => (if (wrap64 ((bt102.2.length : Int) + 1)) = 0 then (none) else ((some (([] : List (S37)) : List (S37))).bind fun y116 => (if 0 ≤ (Int.tmod t115 (wrap64 ((bt102.2.length : Int) + 1))) then (if (Int.tmod t115 (wrap64 ((bt102.2.length : Int) + 1))) ≤ (bt102.2.length : Int) then ((impl_Project.f k bt102.1 (bt102.2.take ((Int.tmod t115 (wrap64 ((bt102.2.length : Int) + 1))) : Int).toNat)).bind fun t123 => (if y116.length + t123.length < 4398046511104 then ((some (y116 ++ t123 : List (S37))).bind fun y126 => ((impl_Project.f k bt102.1 (bt102.2.drop ((Int.tmod t115 (wrap64 ((bt102.2.length : Int) + 1))) : Int).toNat)).bind fun t133 => (if y126.length + t133.length < 4398046511104 then ((laws_sameTuple.f k (y126 ++ t133) t108).bind fun t139 => (if t139 = true then (some (decide ((t108.length : Int) ≤ (bt102.2.length : Int)))) else (some false))) else (none)))) else (none))) else (none)) else (none))))) else (some false)))))))
set_option maxHeartbeats 8000000 in
set_option maxRecDepth 100000 in
theorem laws_FnProjects.calls (k : Nat) (A0 : Option Addr) (c0 : Nat) (l0 : List Int) (r : Bool) (w : World) (hr0 : Kd.C (Kd.int .u8) w A0 l0.length l0) (hc0 : l0.length ≤ c0) (h : laws_FnProjects.f k l0 = some r) :
    Calls Try.prog 4 #[.slice A0 l0.length c0] w fun e w' => e = .returned (.bool r) ∧ Below w.heap.size w w' := by
  have HR0 := Aside0.mk hr0
  have HC0 := Aside0.mk hc0
  clear hr0 hc0
  have HB := Aside0.mk (Below.refl w.heap.size w)
  have H : ((laws_big.f l0).bind fun t101 => (if t101 = true then (some true) else ((spec_DrawProject.f k l0).bind fun bt102 => ((impl_Project.f k bt102.1 bt102.2).bind fun t108 => ((spec_Project.f k bt102.1 bt102.2).bind fun t111 => ((laws_sameTuple.f k t108 t111).bind fun t114 => (if t114 = true then ((laws_at.f l0 1).bind fun t115 => (if (wrap64 ((bt102.2.length : Int) + 1)) = 0 then (none) else ((some (([] : List (S37)) : List (S37))).bind fun y116 => (if 0 ≤ (Int.tmod t115 (wrap64 ((bt102.2.length : Int) + 1))) then (if (Int.tmod t115 (wrap64 ((bt102.2.length : Int) + 1))) ≤ (bt102.2.length : Int) then ((impl_Project.f k bt102.1 (bt102.2.take ((Int.tmod t115 (wrap64 ((bt102.2.length : Int) + 1))) : Int).toNat)).bind fun t123 => (if y116.length + t123.length < 4398046511104 then ((some (y116 ++ t123 : List (S37))).bind fun y126 => ((impl_Project.f k bt102.1 (bt102.2.drop ((Int.tmod t115 (wrap64 ((bt102.2.length : Int) + 1))) : Int).toNat)).bind fun t133 => (if y126.length + t133.length < 4398046511104 then ((laws_sameTuple.f k (y126 ++ t133) t108).bind fun t139 => (if t139 = true then (some (decide ((t108.length : Int) ≤ (bt102.2.length : Int)))) else (some false))) else (none)))) else (none))) else (none)) else (none))))) else (some false)))))))) = some r := h
  clear h
  replace H := Option.bind_eq_some_iff.mp H
  obtain ⟨t101, A20, H⟩ := H
  replace H : (if t101 = true then (some true) else ((spec_DrawProject.f k l0).bind fun bt102 => ((impl_Project.f k bt102.1 bt102.2).bind fun t108 => ((spec_Project.f k bt102.1 bt102.2).bind fun t111 => ((laws_sameTuple.f k t108 t111).bind fun t114 => (if t114 = true then ((laws_at.f l0 1).bind fun t115 => (if (wrap64 ((bt102.2.length : Int) + 1)) = 0 then (none) else ((some (([] : List (S37)) : List (S37))).bind fun y116 => (if 0 ≤ (Int.tmod t115 (wrap64 ((bt102.2.length : Int) + 1))) then (if (Int.tmod t115 (wrap64 ((bt102.2.length : Int) + 1))) ≤ (bt102.2.length : Int) then ((impl_Project.f k bt102.1 (bt102.2.take ((Int.tmod t115 (wrap64 ((bt102.2.length : Int) + 1))) : Int).toNat)).bind fun t123 => (if y116.length + t123.length < 4398046511104 then ((some (y116 ++ t123 : List (S37))).bind fun y126 => ((impl_Project.f k bt102.1 (bt102.2.drop ((Int.tmod t115 (wrap64 ((bt102.2.length : Int) + 1))) : Int).toNat)).bind fun t133 => (if y126.length + t133.length < 4398046511104 then ((laws_sameTuple.f k (y126 ++ t133) t108).bind fun t139 => (if t139 = true then (some (decide ((t108.length : Int) ≤ (bt102.2.length : Int)))) else (some false))) else (none)))) else (none))) else (none)) else (none))))) else (some false))))))) = some r := H
  have A2 := Aside0.mk A20
  clear A20
  by_cases c3 : t101 = true
  · subst c3
    have H1 : (some true) = some r := by rw [if_pos rfl] at H; exact H
    clear H
    have H := H1
    clear H1
    obtain rfl := Option.some.inj H
    go_enter Try.func4, Try.ntmps4
    go_wp2_with (first | ((with_reducible refine gate_callee (f := 9) rfl ?_); refine goesL_ (some 9) rfl rfl Try.func9 (by kernel_rfl) rfl #[.slice A0 l0.length c0] rfl (by (try simp only [List.map_toArray, List.map_cons, List.map_nil]); first | done | rfl | (simp only [List.length_drop, List.length_take]; rfl)) ?_; (with_reducible refine (laws_big.calls _ _ l0 true _ ?side1 ?side2 A2.out).mono ?_); (case side1 => repeat (first | exact HR0.out | (with_reducible refine Kd.C_alloc ?_ _) | (with_reducible refine Kd.C_drewN ?_ _) | (with_reducible refine Kd.C_drew ?_))); (case side2 => exact HC0.out); rintro e w' ⟨rfl, ⟨nd, rfl⟩⟩; refine ⟨_, rfl, ?_⟩))
    go_ret
    exact ⟨by first | rfl | (simp [errW_none, errW_some] <;> rfl) | (simp [*, errW_none, errW_some] <;> rfl), by repeat (first | (with_reducible first | exact HB.out | apply below_alloc | apply pw_below_drewN | apply below_drew1) | exact HB.out)⟩
  · replace c3 := Bool.eq_false_iff.mpr c3
    subst c3
    have H1 : ((spec_DrawProject.f k l0).bind fun bt102 => ((impl_Project.f k bt102.1 bt102.2).bind fun t108 => ((spec_Project.f k bt102.1 bt102.2).bind fun t111 => ((laws_sameTuple.f k t108 t111).bind fun t114 => (if t114 = true then ((laws_at.f l0 1).bind fun t115 => (if (wrap64 ((bt102.2.length : Int) + 1)) = 0 then (none) else ((some (([] : List (S37)) : List (S37))).bind fun y116 => (if 0 ≤ (Int.tmod t115 (wrap64 ((bt102.2.length : Int) + 1))) then (if (Int.tmod t115 (wrap64 ((bt102.2.length : Int) + 1))) ≤ (bt102.2.length : Int) then ((impl_Project.f k bt102.1 (bt102.2.take ((Int.tmod t115 (wrap64 ((bt102.2.length : Int) + 1))) : Int).toNat)).bind fun t123 => (if y116.length + t123.length < 4398046511104 then ((some (y116 ++ t123 : List (S37))).bind fun y126 => ((impl_Project.f k bt102.1 (bt102.2.drop ((Int.tmod t115 (wrap64 ((bt102.2.length : Int) + 1))) : Int).toNat)).bind fun t133 => (if y126.length + t133.length < 4398046511104 then ((laws_sameTuple.f k (y126 ++ t133) t108).bind fun t139 => (if t139 = true then (some (decide ((t108.length : Int) ≤ (bt102.2.length : Int)))) else (some false))) else (none)))) else (none))) else (none)) else (none))))) else (some false)))))) = some r := by rw [if_neg (show ¬ (false = true) by decide)] at H; exact H
    clear H
    have H := H1
    clear H1
    replace H := Option.bind_eq_some_iff.mp H
    obtain ⟨⟨t102, t103⟩, A40, H⟩ := H
    replace H : ((impl_Project.f k t102 t103).bind fun t108 => ((spec_Project.f k t102 t103).bind fun t111 => ((laws_sameTuple.f k t108 t111).bind fun t114 => (if t114 = true then ((laws_at.f l0 1).bind fun t115 => (if (wrap64 ((t103.length : Int) + 1)) = 0 then (none) else ((some (([] : List (S37)) : List (S37))).bind fun y116 => (if 0 ≤ (Int.tmod t115 (wrap64 ((t103.length : Int) + 1))) then (if (Int.tmod t115 (wrap64 ((t103.length : Int) + 1))) ≤ (t103.length : Int) then ((impl_Project.f k t102 (t103.take ((Int.tmod t115 (wrap64 ((t103.length : Int) + 1))) : Int).toNat)).bind fun t123 => (if y116.length + t123.length < 4398046511104 then ((some (y116 ++ t123 : List (S37))).bind fun y126 => ((impl_Project.f k t102 (t103.drop ((Int.tmod t115 (wrap64 ((t103.length : Int) + 1))) : Int).toNat)).bind fun t133 => (if y126.length + t133.length < 4398046511104 then ((laws_sameTuple.f k (y126 ++ t133) t108).bind fun t139 => (if t139 = true then (some (decide ((t108.length : Int) ≤ (t103.length : Int)))) else (some false))) else (none)))) else (none))) else (none)) else (none))))) else (some false))))) = some r := H
    have A4 := Aside0.mk A40
    clear A40
    replace H := Option.bind_eq_some_iff.mp H
    obtain ⟨t108, A50, H⟩ := H
    replace H : ((spec_Project.f k t102 t103).bind fun t111 => ((laws_sameTuple.f k t108 t111).bind fun t114 => (if t114 = true then ((laws_at.f l0 1).bind fun t115 => (if (wrap64 ((t103.length : Int) + 1)) = 0 then (none) else ((some (([] : List (S37)) : List (S37))).bind fun y116 => (if 0 ≤ (Int.tmod t115 (wrap64 ((t103.length : Int) + 1))) then (if (Int.tmod t115 (wrap64 ((t103.length : Int) + 1))) ≤ (t103.length : Int) then ((impl_Project.f k t102 (t103.take ((Int.tmod t115 (wrap64 ((t103.length : Int) + 1))) : Int).toNat)).bind fun t123 => (if y116.length + t123.length < 4398046511104 then ((some (y116 ++ t123 : List (S37))).bind fun y126 => ((impl_Project.f k t102 (t103.drop ((Int.tmod t115 (wrap64 ((t103.length : Int) + 1))) : Int).toNat)).bind fun t133 => (if y126.length + t133.length < 4398046511104 then ((laws_sameTuple.f k (y126 ++ t133) t108).bind fun t139 => (if t139 = true then (some (decide ((t108.length : Int) ≤ (t103.length : Int)))) else (some false))) else (none)))) else (none))) else (none)) else (none))))) else (some false)))) = some r := H
    have A5 := Aside0.mk A50
    clear A50
    replace H := Option.bind_eq_some_iff.mp H
    obtain ⟨t111, A60, H⟩ := H
    replace H : ((laws_sameTuple.f k t108 t111).bind fun t114 => (if t114 = true then ((laws_at.f l0 1).bind fun t115 => (if (wrap64 ((t103.length : Int) + 1)) = 0 then (none) else ((some (([] : List (S37)) : List (S37))).bind fun y116 => (if 0 ≤ (Int.tmod t115 (wrap64 ((t103.length : Int) + 1))) then (if (Int.tmod t115 (wrap64 ((t103.length : Int) + 1))) ≤ (t103.length : Int) then ((impl_Project.f k t102 (t103.take ((Int.tmod t115 (wrap64 ((t103.length : Int) + 1))) : Int).toNat)).bind fun t123 => (if y116.length + t123.length < 4398046511104 then ((some (y116 ++ t123 : List (S37))).bind fun y126 => ((impl_Project.f k t102 (t103.drop ((Int.tmod t115 (wrap64 ((t103.length : Int) + 1))) : Int).toNat)).bind fun t133 => (if y126.length + t133.length < 4398046511104 then ((laws_sameTuple.f k (y126 ++ t133) t108).bind fun t139 => (if t139 = true then (some (decide ((t108.length : Int) ≤ (t103.length : Int)))) else (some false))) else (none)))) else (none))) else (none)) else (none))))) else (some false))) = some r := H
    have A6 := Aside0.mk A60
    clear A60
    replace H := Option.bind_eq_some_iff.mp H
    obtain ⟨t114, A70, H⟩ := H
    replace H : (if t114 = true then ((laws_at.f l0 1).bind fun t115 => (if (wrap64 ((t103.length : Int) + 1)) = 0 then (none) else ((some (([] : List (S37)) : List (S37))).bind fun y116 => (if 0 ≤ (Int.tmod t115 (wrap64 ((t103.length : Int) + 1))) then (if (Int.tmod t115 (wrap64 ((t103.length : Int) + 1))) ≤ (t103.length : Int) then ((impl_Project.f k t102 (t103.take ((Int.tmod t115 (wrap64 ((t103.length : Int) + 1))) : Int).toNat)).bind fun t123 => (if y116.length + t123.length < 4398046511104 then ((some (y116 ++ t123 : List (S37))).bind fun y126 => ((impl_Project.f k t102 (t103.drop ((Int.tmod t115 (wrap64 ((t103.length : Int) + 1))) : Int).toNat)).bind fun t133 => (if y126.length + t133.length < 4398046511104 then ((laws_sameTuple.f k (y126 ++ t133) t108).bind fun t139 => (if t139 = true then (some (decide ((t108.length : Int) ≤ (t103.length : Int)))) else (some false))) else (none)))) else (none))) else (none)) else (none))))) else (some false)) = some r := H
    have A7 := Aside0.mk A70
    clear A70
    by_cases c8 : t114 = true
    · subst c8
      have H1 : ((laws_at.f l0 1).bind fun t115 => (if (wrap64 ((t103.length : Int) + 1)) = 0 then (none) else ((some (([] : List (S37)) : List (S37))).bind fun y116 => (if 0 ≤ (Int.tmod t115 (wrap64 ((t103.length : Int) + 1))) then (if (Int.tmod t115 (wrap64 ((t103.length : Int) + 1))) ≤ (t103.length : Int) then ((impl_Project.f k t102 (t103.take ((Int.tmod t115 (wrap64 ((t103.length : Int) + 1))) : Int).toNat)).bind fun t123 => (if y116.length + t123.length < 4398046511104 then ((some (y116 ++ t123 : List (S37))).bind fun y126 => ((impl_Project.f k t102 (t103.drop ((Int.tmod t115 (wrap64 ((t103.length : Int) + 1))) : Int).toNat)).bind fun t133 => (if y126.length + t133.length < 4398046511104 then ((laws_sameTuple.f k (y126 ++ t133) t108).bind fun t139 => (if t139 = true then (some (decide ((t108.length : Int) ≤ (t103.length : Int)))) else (some false))) else (none)))) else (none))) else (none)) else (none))))) = some r := by rw [if_pos rfl] at H; exact H
      clear H
      have H := H1
      clear H1
      replace H := Option.bind_eq_some_iff.mp H
      obtain ⟨t115, A90, H⟩ := H
      replace H : (if (wrap64 ((t103.length : Int) + 1)) = 0 then (none) else ((some (([] : List (S37)) : List (S37))).bind fun y116 => (if 0 ≤ (Int.tmod t115 (wrap64 ((t103.length : Int) + 1))) then (if (Int.tmod t115 (wrap64 ((t103.length : Int) + 1))) ≤ (t103.length : Int) then ((impl_Project.f k t102 (t103.take ((Int.tmod t115 (wrap64 ((t103.length : Int) + 1))) : Int).toNat)).bind fun t123 => (if y116.length + t123.length < 4398046511104 then ((some (y116 ++ t123 : List (S37))).bind fun y126 => ((impl_Project.f k t102 (t103.drop ((Int.tmod t115 (wrap64 ((t103.length : Int) + 1))) : Int).toNat)).bind fun t133 => (if y126.length + t133.length < 4398046511104 then ((laws_sameTuple.f k (y126 ++ t133) t108).bind fun t139 => (if t139 = true then (some (decide ((t108.length : Int) ≤ (t103.length : Int)))) else (some false))) else (none)))) else (none))) else (none)) else (none)))) = some r := H
      have A9 := Aside0.mk A90
      clear A90
      by_cases c10 : (wrap64 ((t103.length : Int) + 1)) = 0
      · rw [if_pos c10] at H
        exact absurd H (by simp)
      · rw [if_neg c10] at H
        have c10b0 : ((wrap64 ((t103.length : Int) + 1)) == 0) = false := beq_eq_false_iff_ne.mpr c10
        have c10b1 : ((wrap64 ((t103.length : Int) + 1)) != 0) = true := bne_iff_ne.mpr c10
        obtain ⟨y116, hy116⟩ : ∃ y_ : List (S37), y_ = (([] : List (S37))) := ⟨_, rfl⟩
        replace H : (if 0 ≤ (Int.tmod t115 (wrap64 ((t103.length : Int) + 1))) then (if (Int.tmod t115 (wrap64 ((t103.length : Int) + 1))) ≤ (t103.length : Int) then ((impl_Project.f k t102 (t103.take ((Int.tmod t115 (wrap64 ((t103.length : Int) + 1))) : Int).toNat)).bind fun t123 => (if y116.length + t123.length < 4398046511104 then ((some (y116 ++ t123 : List (S37))).bind fun y126 => ((impl_Project.f k t102 (t103.drop ((Int.tmod t115 (wrap64 ((t103.length : Int) + 1))) : Int).toNat)).bind fun t133 => (if y126.length + t133.length < 4398046511104 then ((laws_sameTuple.f k (y126 ++ t133) t108).bind fun t139 => (if t139 = true then (some (decide ((t108.length : Int) ≤ (t103.length : Int)))) else (some false))) else (none)))) else (none))) else (none)) else (none)) = some r := by first | (rw [hy116]; with_reducible exact H) | (have H2_ := (Option.bind_some _ _).symm.trans H; rw [hy116]; with_reducible exact H2_) | (have H2_ := (Option.bind_some _ _).symm.trans H; with_reducible exact H2_) | with_reducible exact H | (rw [hy116]; exact H) | exact H
        have Ny116 := Aside0.mk hy116
        clear hy116
        obtain ⟨ji11, hji11⟩ : ∃ j_ : Int, (Int.tmod t115 (wrap64 ((t103.length : Int) + 1))) = j_ := ⟨_, rfl⟩
        replace H : (if 0 ≤ (ji11) then (if (ji11) ≤ (t103.length : Int) then ((impl_Project.f k t102 (t103.take ((ji11) : Int).toNat)).bind fun t123 => (if y116.length + t123.length < 4398046511104 then ((some (y116 ++ t123 : List (S37))).bind fun y126 => ((impl_Project.f k t102 (t103.drop ((ji11) : Int).toNat)).bind fun t133 => (if y126.length + t133.length < 4398046511104 then ((laws_sameTuple.f k (y126 ++ t133) t108).bind fun t139 => (if t139 = true then (some (decide ((t108.length : Int) ≤ (t103.length : Int)))) else (some false))) else (none)))) else (none))) else (none)) else (none)) = some r := by first | (rw [hji11] at H; exact H) | (simp only [hji11] at H ⊢; exact H)
        (try rw [hji11] at A2)
        (try rw [hji11] at A4)
        (try rw [hji11] at A5)
        (try rw [hji11] at A6)
        (try rw [hji11] at A7)
        (try rw [hji11] at A9)
        by_cases c12 : 0 ≤ (ji11)
        · rw [if_pos c12] at H
          have c12b0 := eq_true c12
          have c12b1 : decide (0 ≤ (ji11)) = true := decide_eq_true c12
          clear c12
          by_cases c13 : (ji11) ≤ (t103.length : Int)
          · rw [if_pos c13] at H
            have c13b0 := eq_true c13
            have c13b1 : decide ((ji11) ≤ (t103.length : Int)) = true := decide_eq_true c13
            clear c13
            obtain ⟨y119, hy119⟩ : ∃ y_ : List Int, y_ = (t103.take ((ji11) : Int).toNat) := ⟨_, rfl⟩
            replace H : ((impl_Project.f k t102 y119).bind fun t123 => (if y116.length + t123.length < 4398046511104 then ((some (y116 ++ t123 : List (S37))).bind fun y126 => ((impl_Project.f k t102 (t103.drop ((ji11) : Int).toNat)).bind fun t133 => (if y126.length + t133.length < 4398046511104 then ((laws_sameTuple.f k (y126 ++ t133) t108).bind fun t139 => (if t139 = true then (some (decide ((t108.length : Int) ≤ (t103.length : Int)))) else (some false))) else (none)))) else (none))) = some r := by first | (rw [hy119]; with_reducible exact H) | (have H2_ := (Option.bind_some _ _).symm.trans H; rw [hy119]; with_reducible exact H2_) | (have H2_ := (Option.bind_some _ _).symm.trans H; with_reducible exact H2_) | with_reducible exact H | (rw [hy119]; exact H) | exact H
            have Ny119 := Aside0.mk hy119
            clear hy119
            replace H := Option.bind_eq_some_iff.mp H
            obtain ⟨t123, A140, H⟩ := H
            replace H : (if y116.length + t123.length < 4398046511104 then ((some (y116 ++ t123 : List (S37))).bind fun y126 => ((impl_Project.f k t102 (t103.drop ((ji11) : Int).toNat)).bind fun t133 => (if y126.length + t133.length < 4398046511104 then ((laws_sameTuple.f k (y126 ++ t133) t108).bind fun t139 => (if t139 = true then (some (decide ((t108.length : Int) ≤ (t103.length : Int)))) else (some false))) else (none)))) else (none)) = some r := H
            have A14 := Aside0.mk A140
            clear A140
            by_cases c15 : y116.length + t123.length < 4398046511104
            · rw [if_pos c15] at H
              have LMc15 := Aside0.mk c15
              clear c15
              obtain ⟨y126, hy126⟩ : ∃ y_ : List (S37), y_ = (y116 ++ t123) := ⟨_, rfl⟩
              replace H : ((impl_Project.f k t102 (t103.drop ((ji11) : Int).toNat)).bind fun t133 => (if y126.length + t133.length < 4398046511104 then ((laws_sameTuple.f k (y126 ++ t133) t108).bind fun t139 => (if t139 = true then (some (decide ((t108.length : Int) ≤ (t103.length : Int)))) else (some false))) else (none))) = some r := by first | (rw [hy126]; with_reducible exact H) | (have H2_ := (Option.bind_some _ _).symm.trans H; rw [hy126]; with_reducible exact H2_) | (have H2_ := (Option.bind_some _ _).symm.trans H; with_reducible exact H2_) | with_reducible exact H | (rw [hy126]; exact H) | exact H
              have Ny126 := Aside0.mk hy126
              clear hy126
              have c16b0 := eq_true (of_decide_eq_true (by first | (with_reducible assumption) | assumption) : 0 ≤ (ji11))
              have c17b0 := eq_true (of_decide_eq_true (by first | (with_reducible assumption) | assumption) : (ji11) ≤ (t103.length : Int))
              obtain ⟨y129, hy129⟩ : ∃ y_ : List Int, y_ = (t103.drop ((ji11) : Int).toNat) := ⟨_, rfl⟩
              replace H : ((impl_Project.f k t102 y129).bind fun t133 => (if y126.length + t133.length < 4398046511104 then ((laws_sameTuple.f k (y126 ++ t133) t108).bind fun t139 => (if t139 = true then (some (decide ((t108.length : Int) ≤ (t103.length : Int)))) else (some false))) else (none))) = some r := by first | (rw [hy129]; with_reducible exact H) | (have H2_ := (Option.bind_some _ _).symm.trans H; rw [hy129]; with_reducible exact H2_) | (have H2_ := (Option.bind_some _ _).symm.trans H; with_reducible exact H2_) | with_reducible exact H | (rw [hy129]; exact H) | exact H
              have Ny129 := Aside0.mk hy129
              clear hy129
              replace H := Option.bind_eq_some_iff.mp H
              obtain ⟨t133, A180, H⟩ := H
              replace H : (if y126.length + t133.length < 4398046511104 then ((laws_sameTuple.f k (y126 ++ t133) t108).bind fun t139 => (if t139 = true then (some (decide ((t108.length : Int) ≤ (t103.length : Int)))) else (some false))) else (none)) = some r := H
              have A18 := Aside0.mk A180
              clear A180
              by_cases c19 : y126.length + t133.length < 4398046511104
              · rw [if_pos c19] at H
                have LMc19 := Aside0.mk c19
                clear c19
                obtain ⟨y136, hy136⟩ : ∃ y_ : List (S37), y_ = (y126 ++ t133) := ⟨_, rfl⟩
                replace H : ((laws_sameTuple.f k y136 t108).bind fun t139 => (if t139 = true then (some (decide ((t108.length : Int) ≤ (t103.length : Int)))) else (some false))) = some r := by first | (rw [hy136]; with_reducible exact H) | (have H2_ := (Option.bind_some _ _).symm.trans H; rw [hy136]; with_reducible exact H2_) | (have H2_ := (Option.bind_some _ _).symm.trans H; with_reducible exact H2_) | with_reducible exact H | (rw [hy136]; exact H) | exact H
                have Ny136 := Aside0.mk hy136
                clear hy136
                replace H := Option.bind_eq_some_iff.mp H
                obtain ⟨t139, A200, H⟩ := H
                replace H : (if t139 = true then (some (decide ((t108.length : Int) ≤ (t103.length : Int)))) else (some false)) = some r := H
                have A20 := Aside0.mk A200
                clear A200
                by_cases c21 : t139 = true
                · subst c21
                  have H1 : (some (decide ((t108.length : Int) ≤ (t103.length : Int)))) = some r := by rw [if_pos rfl] at H; exact H
                  clear H
                  have H := H1
                  clear H1
                  obtain rfl := Option.some.inj H
                  go_enter Try.func4, Try.ntmps4
                  go_wp2_with (first | ((with_reducible refine gate_callee (f := 9) rfl ?_); refine goesL_ (some 9) rfl rfl Try.func9 (by kernel_rfl) rfl #[.slice A0 l0.length c0] rfl (by (try simp only [List.map_toArray, List.map_cons, List.map_nil]); first | done | rfl | (simp only [List.length_drop, List.length_take]; rfl)) ?_; (with_reducible refine (laws_big.calls _ _ l0 false _ ?side1 ?side2 A2.out).mono ?_); (case side1 => repeat (first | exact HR0.out | (with_reducible refine Kd.C_alloc ?_ _) | (with_reducible refine Kd.C_drewN ?_ _) | (with_reducible refine Kd.C_drew ?_))); (case side2 => exact HC0.out); rintro e w' ⟨rfl, ⟨nd, rfl⟩⟩; refine ⟨_, rfl, ?_⟩) | ((with_reducible refine gate_callee (f := 16) rfl ?_); refine goesL_ (some 12) rfl rfl Try.func16 (by kernel_rfl) rfl #[.slice A0 l0.length c0] rfl (by (try simp only [List.map_toArray, List.map_cons, List.map_nil]); first | done | rfl | (simp only [List.length_drop, List.length_take]; rfl)) ?_; (with_reducible refine (spec_DrawProject.calls k _ _ l0 t102 t103 _ ?side1 ?side2 A4.out).mono ?_); (case side1 => repeat (first | exact HR0.out | (with_reducible refine Kd.C_alloc ?_ _) | (with_reducible refine Kd.C_drewN ?_ _) | (with_reducible refine Kd.C_drew ?_))); (case side2 => exact HC0.out); rintro e w22 ⟨v104, v106, rfl, ho0, ho1, hb⟩; refine ⟨_, rfl, ?_⟩; have n0_ := Aside0.mk (Kd.R_lower ho0 (below_size (by repeat (first | (with_reducible first | exact HB.out | apply below_alloc | apply pw_below_drewN | apply below_drew1) | exact HB.out)))); have n1_ := Aside0.mk (Kd.R_lower ho1 (below_size (by repeat (first | (with_reducible first | exact HB.out | apply below_alloc | apply pw_below_drewN | apply below_drew1) | exact HB.out)))); have n2_ := Aside0.mk (below_step (by repeat (first | (with_reducible first | exact HB.out | apply below_alloc | apply pw_below_drewN | apply below_drew1) | exact HB.out)) hb); clear HB; have HO105 := n0_; have HO107 := n1_; have HB := n2_; clear n0_ n1_ n2_; (try clear hb); (try clear hb2); (try clear hk); (try clear hi); (try clear ho0); (try clear ho1); obtain ⟨Ao23, co23, eo23⟩ := Kd.R_slice HO105.out; subst eo23; obtain ⟨Ao24, co24, eo24⟩ := Kd.R_slice HO107.out; subst eo24) | ((with_reducible refine gate_callee (f := 17) rfl ?_); refine goesL_ (some 17) rfl rfl Try.func17 (by kernel_rfl) rfl #[.slice Ao23 t102.length co23, .slice Ao24 t103.length co24] rfl (by (try simp only [List.map_toArray, List.map_cons, List.map_nil]); first | done | rfl | (simp only [List.length_drop, List.length_take]; rfl)) ?_; (with_reducible refine (impl_Project.calls k _ _ t102 _ _ t103 t108 _ ?side1 ?side2 ?side3 ?side4 A5.out).mono ?_); (case side1 => repeat (first | exact (Kd.R_reads' HO105.out).2.2 | (with_reducible refine Kd.C_alloc ?_ _) | (with_reducible refine Kd.C_drewN ?_ _) | (with_reducible refine Kd.C_drew ?_))); (case side2 => exact (Kd.R_reads' HO105.out).2.1); (case side3 => repeat (first | exact (Kd.R_reads' HO107.out).2.2 | (with_reducible refine Kd.C_alloc ?_ _) | (with_reducible refine Kd.C_drewN ?_ _) | (with_reducible refine Kd.C_drew ?_))); (case side4 => exact (Kd.R_reads' HO107.out).2.1); rintro e w25 ⟨v109, rfl, ho0, hb⟩; refine ⟨_, rfl, ?_⟩; have n0_ := Aside0.mk (Kd.R_elder' (by (with_reducible repeat (first | apply Kd.R_alloc | apply Kd.R_drewN | apply Kd.R_drew)); exact HO105.out) (Kd.R_base ho0) hb); have n1_ := Aside0.mk (Kd.R_below (by (with_reducible repeat (first | apply Kd.R_alloc | apply Kd.R_drewN | apply Kd.R_drew)); exact HO107.out) hb); have n2_ := Aside0.mk (Kd.R_lower (Kd.R_new' ho0 (Kd.R_lt (by (with_reducible repeat (first | apply Kd.R_alloc | apply Kd.R_drewN | apply Kd.R_drew)); exact HO105.out))) (below_size (by repeat (first | (with_reducible first | exact HB.out | apply below_alloc | apply pw_below_drewN | apply below_drew1) | exact HB.out)))); have n3_ := Aside0.mk (below_step (by repeat (first | (with_reducible first | exact HB.out | apply below_alloc | apply pw_below_drewN | apply below_drew1) | exact HB.out)) hb); clear HO105; clear HO107; clear HB; have HO105 := n0_; have HO107 := n1_; have HO110 := n2_; have HB := n3_; clear n0_ n1_ n2_ n3_; (try clear hb); (try clear hb2); (try clear hk); (try clear hi); (try clear ho0)) | ((with_reducible refine gate_callee (f := 18) rfl ?_); refine goesL_ (some 21) rfl rfl Try.func18 (by kernel_rfl) rfl #[.slice Ao23 t102.length co23, .slice Ao24 t103.length co24] rfl (by (try simp only [List.map_toArray, List.map_cons, List.map_nil]); first | done | rfl | (simp only [List.length_drop, List.length_take]; rfl)) ?_; (with_reducible refine (spec_Project.calls k _ _ t102 _ _ t103 t111 _ ?side1 ?side2 ?side3 ?side4 A6.out).mono ?_); (case side1 => repeat (first | exact (Kd.R_reads' HO105.out).2.2 | (with_reducible refine Kd.C_alloc ?_ _) | (with_reducible refine Kd.C_drewN ?_ _) | (with_reducible refine Kd.C_drew ?_))); (case side2 => exact (Kd.R_reads' HO105.out).2.1); (case side3 => repeat (first | exact (Kd.R_reads' HO107.out).2.2 | (with_reducible refine Kd.C_alloc ?_ _) | (with_reducible refine Kd.C_drewN ?_ _) | (with_reducible refine Kd.C_drew ?_))); (case side4 => exact (Kd.R_reads' HO107.out).2.1); rintro e w26 ⟨v112, rfl, ho0, hb⟩; refine ⟨_, rfl, ?_⟩; have n0_ := Aside0.mk (Kd.R_elder' (by (with_reducible repeat (first | apply Kd.R_alloc | apply Kd.R_drewN | apply Kd.R_drew)); exact HO105.out) (Kd.R_base ho0) hb); have n1_ := Aside0.mk (Kd.R_below (by (with_reducible repeat (first | apply Kd.R_alloc | apply Kd.R_drewN | apply Kd.R_drew)); exact HO107.out) hb); have n2_ := Aside0.mk (Kd.R_elder' (by (with_reducible repeat (first | apply Kd.R_alloc | apply Kd.R_drewN | apply Kd.R_drew)); exact HO110.out) (Kd.R_base ho0) hb); have n3_ := Aside0.mk (Kd.R_lower (Kd.R_new' (Kd.R_new' ho0 (Kd.R_lt (by (with_reducible repeat (first | apply Kd.R_alloc | apply Kd.R_drewN | apply Kd.R_drew)); exact HO105.out))) (Kd.R_lt (by (with_reducible repeat (first | apply Kd.R_alloc | apply Kd.R_drewN | apply Kd.R_drew)); exact HO110.out))) (below_size (by repeat (first | (with_reducible first | exact HB.out | apply below_alloc | apply pw_below_drewN | apply below_drew1) | exact HB.out)))); have n4_ := Aside0.mk (below_step (by repeat (first | (with_reducible first | exact HB.out | apply below_alloc | apply pw_below_drewN | apply below_drew1) | exact HB.out)) hb); clear HO105; clear HO107; clear HO110; clear HB; have HO105 := n0_; have HO107 := n1_; have HO110 := n2_; have HO113 := n3_; have HB := n4_; clear n0_ n1_ n2_ n3_ n4_; (try clear hb); (try clear hb2); (try clear hk); (try clear hi); (try clear ho0); obtain ⟨Ao27, co27, eo27⟩ := Kd.R_slice HO110.out; subst eo27; obtain ⟨Ao28, co28, eo28⟩ := Kd.R_slice HO113.out; subst eo28) | ((with_reducible refine gate_callee (f := 15) rfl ?_); refine goesL_ (some 22) rfl rfl Try.func15 (by kernel_rfl) rfl #[.slice Ao27 t108.length co27, .slice Ao28 t111.length co28] rfl (by (try simp only [List.map_toArray, List.map_cons, List.map_nil]); first | done | rfl | (simp only [List.length_drop, List.length_take]; rfl)) ?_; (with_reducible refine (laws_sameTuple.calls k _ _ t108 _ _ t111 true _ ?side1 ?side2 ?side3 ?side4 A7.out).mono ?_); (case side1 => repeat (first | exact (Kd.R_reads' HO110.out).2.2 | (with_reducible refine Kd.C_alloc ?_ _) | (with_reducible refine Kd.C_drewN ?_ _) | (with_reducible refine Kd.C_drew ?_))); (case side2 => exact (Kd.R_reads' HO110.out).2.1); (case side3 => repeat (first | exact (Kd.R_reads' HO113.out).2.2 | (with_reducible refine Kd.C_alloc ?_ _) | (with_reducible refine Kd.C_drewN ?_ _) | (with_reducible refine Kd.C_drew ?_))); (case side4 => exact (Kd.R_reads' HO113.out).2.1); rintro e w' ⟨rfl, ⟨nd, rfl⟩⟩; refine ⟨_, rfl, ?_⟩) | ((with_reducible refine gate_callee (f := 19) rfl ?_); refine goesL_ (some 25) rfl rfl Try.func19 (by kernel_rfl) rfl #[.slice A0 l0.length c0, .int .i64 1] rfl (by (try simp only [List.map_toArray, List.map_cons, List.map_nil]); first | done | rfl | (simp only [List.length_drop, List.length_take]; rfl)) ?_; (with_reducible refine (laws_at.calls _ _ l0 1 t115 _ ?side1 ?side2 A9.out).mono ?_); (case side1 => repeat (first | exact (Kd.C_below HR0.out (by repeat (first | (with_reducible first | exact HB.out | apply below_alloc | apply pw_below_drewN | apply below_drew1) | exact HB.out))) | (with_reducible refine Kd.C_alloc ?_ _) | (with_reducible refine Kd.C_drewN ?_ _) | (with_reducible refine Kd.C_drew ?_))); (case side2 => exact HC0.out); rintro e w' ⟨rfl, ⟨nd, rfl⟩⟩; refine ⟨_, rfl, ?_⟩) | ((with_reducible refine gate_dst (N := 30) rfl ?_); (try (refine gate_guard (by rfl) ?_; dsimp only)); refine Kd.R_lit k37 _ 37 ?hg (N := 30) ?hd (xs := ([] : List (S37))) (inner := []) (ok := fun _ => True) (okp := fun _ => True) ?hr ?hp (fun _ hk => hk) trivial (Below.refl _ _) (Nat.le_refl _) (by simp) ?_; (case hd => rfl); (case hg => rfl); (case hr => first | (go_simp; done) | (go_simp; rfl)); (case hp => exact (Reps.none _ _)); intro v117 w29 ho30 hb hg_ hnew_; clear hg_ hnew_; (first | rw [← Ny116.out] at ho30 | (simp only [Int.reduceToNat] at ho30; rw [← Ny116.out] at ho30)); have n0_ := Aside0.mk (Kd.R_elder' (by (with_reducible repeat (first | apply Kd.R_alloc | apply Kd.R_drewN | apply Kd.R_drew)); exact HO105.out) (Kd.R_base ho30) hb); have n1_ := Aside0.mk (Kd.R_below (by (with_reducible repeat (first | apply Kd.R_alloc | apply Kd.R_drewN | apply Kd.R_drew)); exact HO107.out) hb); have n2_ := Aside0.mk (Kd.R_elder' (by (with_reducible repeat (first | apply Kd.R_alloc | apply Kd.R_drewN | apply Kd.R_drew)); exact HO110.out) (Kd.R_base ho30) hb); have n3_ := Aside0.mk (Kd.R_elder' (by (with_reducible repeat (first | apply Kd.R_alloc | apply Kd.R_drewN | apply Kd.R_drew)); exact HO113.out) (Kd.R_base ho30) hb); have n4_ := Aside0.mk (Kd.R_lower (Kd.R_new' (Kd.R_new' (Kd.R_new' ho30 (Kd.R_lt (by (with_reducible repeat (first | apply Kd.R_alloc | apply Kd.R_drewN | apply Kd.R_drew)); exact HO105.out))) (Kd.R_lt (by (with_reducible repeat (first | apply Kd.R_alloc | apply Kd.R_drewN | apply Kd.R_drew)); exact HO110.out))) (Kd.R_lt (by (with_reducible repeat (first | apply Kd.R_alloc | apply Kd.R_drewN | apply Kd.R_drew)); exact HO113.out))) (below_size (by repeat (first | (with_reducible first | exact HB.out | apply below_alloc | apply pw_below_drewN | apply below_drew1) | exact HB.out)))); have n5_ := Aside0.mk (below_step (by repeat (first | (with_reducible first | exact HB.out | apply below_alloc | apply pw_below_drewN | apply below_drew1) | exact HB.out)) hb); clear HO105; clear HO107; clear HO110; clear HO113; clear HB; have HO105 := n0_; have HO107 := n1_; have HO110 := n2_; have HO113 := n3_; have HO118 := n4_; have HB := n5_; clear n0_ n1_ n2_ n3_ n4_ n5_; clear hb ho30; have q31 : ((ji11) : Int) ≤ ((t103.length : Int) : Int) := of_decide_eq_true (by first | (with_reducible assumption) | assumption); obtain ⟨i031, hi031, _, hsz31, _⟩ := info_parts info3; have hroom31 : t103.length ≤ co24 := (Kd.R_reads' HO107.out).2.1; have hC31 : Kd.C (Kd.int .i64) _ Ao24 t103.length t103 := (Kd.R_reads' HO107.out).2.2; have hcut31 := cut_to (P := Try.prog) 30 3 .i64 Try.underlying30 hi031 Ao24 t103.length co24 (ji11) (of_decide_eq_true (by first | (with_reducible assumption) | assumption)) q31 hroom31; have hr31 := Kd.C_take (m := ((ji11) : Int).toNat) hC31 (by omega); have hy31 : y119.length = ((ji11) : Int).toNat := (by rw [Ny119.out, List.length_take]; omega); rw [← Ny119.out] at hr31; rw [← hy31] at hcut31; have HR122 := Aside0.mk hr31; have HC122 := Aside0.mk (show y119.length ≤ co24 from by omega); clear hr31 hC31 hroom31 hi031 hsz31; have KY31 := Aside0.mk hy31; clear hy31; have KL31 := Aside0.mk (show ((ji11) : Int).toNat ≤ t103.length from by omega); replace q31 := eq_true q31) | ((with_reducible refine gate_callee (f := 17) rfl ?_); refine goesL_ (some 35) rfl rfl Try.func17 (by kernel_rfl) rfl #[.slice Ao23 t102.length co23, .slice Ao24 y119.length co24] rfl (by (try simp only [List.map_toArray, List.map_cons, List.map_nil]); first | done | rfl | (simp only [List.length_drop, List.length_take]; rfl)) ?_; (with_reducible refine (impl_Project.calls k _ _ t102 _ _ y119 t123 _ ?side1 ?side2 ?side3 ?side4 A14.out).mono ?_); (case side1 => repeat (first | exact (Kd.R_reads' HO105.out).2.2 | (with_reducible refine Kd.C_alloc ?_ _) | (with_reducible refine Kd.C_drewN ?_ _) | (with_reducible refine Kd.C_drew ?_))); (case side2 => exact (Kd.R_reads' HO105.out).2.1); (case side3 => repeat (first | exact (by repeat (first | (with_reducible exact HR122.out) | (with_reducible refine Kd.C_alloc ?_ _) | (with_reducible refine Kd.C_drewN ?_ _) | (with_reducible refine Kd.C_drew ?_) | exact HR122.out)) | (with_reducible refine Kd.C_alloc ?_ _) | (with_reducible refine Kd.C_drewN ?_ _) | (with_reducible refine Kd.C_drew ?_))); (case side4 => exact HC122.out); rintro e w32 ⟨v124, rfl, ho0, hb⟩; refine ⟨_, rfl, ?_⟩; have n0_ := Aside0.mk (Kd.R_elder' (by (with_reducible repeat (first | apply Kd.R_alloc | apply Kd.R_drewN | apply Kd.R_drew)); exact HO105.out) (Kd.R_base ho0) hb); have n1_ := Aside0.mk (Kd.R_below (by (with_reducible repeat (first | apply Kd.R_alloc | apply Kd.R_drewN | apply Kd.R_drew)); exact HO107.out) hb); have n2_ := Aside0.mk (Kd.R_elder' (by (with_reducible repeat (first | apply Kd.R_alloc | apply Kd.R_drewN | apply Kd.R_drew)); exact HO110.out) (Kd.R_base ho0) hb); have n3_ := Aside0.mk (Kd.R_elder' (by (with_reducible repeat (first | apply Kd.R_alloc | apply Kd.R_drewN | apply Kd.R_drew)); exact HO113.out) (Kd.R_base ho0) hb); have n4_ := Aside0.mk (Kd.R_elder' (by (with_reducible repeat (first | apply Kd.R_alloc | apply Kd.R_drewN | apply Kd.R_drew)); exact HO118.out) (Kd.R_base ho0) hb); have n5_ := Aside0.mk (Kd.R_lower (Kd.R_new' (Kd.R_new' (Kd.R_new' (Kd.R_new' ho0 (Kd.R_lt (by (with_reducible repeat (first | apply Kd.R_alloc | apply Kd.R_drewN | apply Kd.R_drew)); exact HO105.out))) (Kd.R_lt (by (with_reducible repeat (first | apply Kd.R_alloc | apply Kd.R_drewN | apply Kd.R_drew)); exact HO110.out))) (Kd.R_lt (by (with_reducible repeat (first | apply Kd.R_alloc | apply Kd.R_drewN | apply Kd.R_drew)); exact HO113.out))) (Kd.R_lt (by (with_reducible repeat (first | apply Kd.R_alloc | apply Kd.R_drewN | apply Kd.R_drew)); exact HO118.out))) (below_size (by repeat (first | (with_reducible first | exact HB.out | apply below_alloc | apply pw_below_drewN | apply below_drew1) | exact HB.out)))); have n6_ := Aside0.mk (Kd.C_below (by repeat (first | (with_reducible exact HR122.out) | (with_reducible refine Kd.C_alloc ?_ _) | (with_reducible refine Kd.C_drewN ?_ _) | (with_reducible refine Kd.C_drew ?_) | exact HR122.out)) hb); have n7_ := Aside0.mk (below_step (by repeat (first | (with_reducible first | exact HB.out | apply below_alloc | apply pw_below_drewN | apply below_drew1) | exact HB.out)) hb); clear HO105; clear HO107; clear HO110; clear HO113; clear HO118; clear HR122; clear HB; have HO105 := n0_; have HO107 := n1_; have HO110 := n2_; have HO113 := n3_; have HO118 := n4_; have HO125 := n5_; have HR122 := n6_; have HB := n7_; clear n0_ n1_ n2_ n3_ n4_ n5_ n6_ n7_; (try clear hb); (try clear hb2); (try clear hk); (try clear hi); (try clear ho0); obtain ⟨Ao34, co34, eo34⟩ := Kd.R_slice HO125.out; subst eo34) | ((with_reducible refine gate_builtin (b := .append) (xs := #[.tmp 30, .tmp 35]) rfl ?_); (try (refine gate_guard (by rfl) ?_; dsimp only)); at_builtin; refine Kd.R_append_rows k37 (w0 := w) w.heap.size rfl (.tmp 30) (.tmp 35) 24 37 (.agg #[(.int .i64 0), (.int .i64 0), (.string ⟨#[]⟩)]) 32 rfl Try.underlying24 info37 rfl (by decide) (by omega) v117 y116 t123 _ _ _ (fun k_ => some k_ ≠ (.slice Ao23 t102.length co23 : Value).ownBlock ∧ some k_ ≠ (.slice Ao27 t108.length co27 : Value).ownBlock ∧ some k_ ≠ (.slice Ao28 t111.length co28 : Value).ownBlock ∧ some k_ ≠ (.slice Ao34 t123.length co34 : Value).ownBlock) (fun _ => False) rfl rfl ?aO ?aR (fun _ _ h => h) (fun _ h => h.elim) ?aF ?aB ?aS ?aL ?_; (case aR => repeat (first | exact (Kd.R_reads' HO125.out).2.2 | (with_reducible refine Kd.C_alloc ?_ _) | (with_reducible refine Kd.C_drewN ?_ _) | (with_reducible refine Kd.C_drew ?_))); (case aB => exact (by repeat (first | (with_reducible first | exact HB.out | apply below_alloc | apply pw_below_drewN | apply below_drew1) | exact HB.out))); (case aF => exact (fun k_ hk => ⟨Kd.fresh' (Kd.R_lt (by (with_reducible repeat (first | apply Kd.R_alloc | apply Kd.R_drewN | apply Kd.R_drew)); exact HO105.out)) k_ hk, Kd.fresh' (Kd.R_lt (by (with_reducible repeat (first | apply Kd.R_alloc | apply Kd.R_drewN | apply Kd.R_drew)); exact HO110.out)) k_ hk, Kd.fresh' (Kd.R_lt (by (with_reducible repeat (first | apply Kd.R_alloc | apply Kd.R_drewN | apply Kd.R_drew)); exact HO113.out)) k_ hk, Kd.fresh' (Kd.R_lt (by (with_reducible repeat (first | apply Kd.R_alloc | apply Kd.R_drewN | apply Kd.R_drew)); exact HO125.out)) k_ hk⟩)); (case aO => exact (by (with_reducible repeat (first | apply Kd.R_alloc | apply Kd.R_drewN | apply Kd.R_drew)); exact Kd.R_mono HO118.out (fun _ hk => ⟨hk.1.1.1.2, ⟨hk.1.1.2, ⟨hk.1.2, hk.2⟩⟩⟩))); (case aS => exact (below_size (by repeat (first | (with_reducible first | exact HB.out | apply below_alloc | apply pw_below_drewN | apply below_drew1) | exact HB.out)))); (case aL => have := LMc15.out; omega); intro v127 w33 ho hb hg hat; rw [← Ny126.out] at ho; have n0_ := Aside0.mk (Kd.R_after (ok := (fun k_ => some k_ ≠ (.slice Ao27 t108.length co27 : Value).ownBlock ∧ some k_ ≠ (.slice Ao28 t111.length co28 : Value).ownBlock ∧ some k_ ≠ (.slice Ao34 t123.length co34 : Value).ownBlock)) (by (with_reducible repeat (first | apply Kd.R_alloc | apply Kd.R_drewN | apply Kd.R_drew)); exact Kd.R_mono HO105.out (fun _ hk => ⟨⟨hk.1.1.1.2, ⟨hk.1.1.2, hk.2⟩⟩, hk.1.2⟩)) hg hat); have n1_ := Aside0.mk (Kd.R_over' (by (with_reducible repeat (first | apply Kd.R_alloc | apply Kd.R_drewN | apply Kd.R_drew)); exact HO107.out) (Kd.R_typed (by (with_reducible repeat (first | apply Kd.R_alloc | apply Kd.R_drewN | apply Kd.R_drew)); exact HO118.out)) (by decide) hg); have n2_ := Aside0.mk (Kd.R_after (ok := (fun k_ => some k_ ≠ (.slice Ao23 t102.length co23 : Value).ownBlock ∧ some k_ ≠ (.slice Ao28 t111.length co28 : Value).ownBlock ∧ some k_ ≠ (.slice Ao34 t123.length co34 : Value).ownBlock)) (by (with_reducible repeat (first | apply Kd.R_alloc | apply Kd.R_drewN | apply Kd.R_drew)); exact Kd.R_mono HO110.out (fun _ hk => ⟨⟨hk.1.1.1.2, ⟨hk.1.1.2, hk.2⟩⟩, hk.1.2⟩)) hg hat); have n3_ := Aside0.mk (Kd.R_after (ok := (fun k_ => some k_ ≠ (.slice Ao23 t102.length co23 : Value).ownBlock ∧ some k_ ≠ (.slice Ao27 t108.length co27 : Value).ownBlock ∧ some k_ ≠ (.slice Ao34 t123.length co34 : Value).ownBlock)) (by (with_reducible repeat (first | apply Kd.R_alloc | apply Kd.R_drewN | apply Kd.R_drew)); exact Kd.R_mono HO113.out (fun _ hk => ⟨⟨hk.1.1.1.2, ⟨hk.1.1.2, hk.2⟩⟩, hk.1.2⟩)) hg hat); have n4_ := Aside0.mk (Kd.R_after (ok := (fun k_ => some k_ ≠ (.slice Ao23 t102.length co23 : Value).ownBlock ∧ some k_ ≠ (.slice Ao27 t108.length co27 : Value).ownBlock ∧ some k_ ≠ (.slice Ao28 t111.length co28 : Value).ownBlock)) (by (with_reducible repeat (first | apply Kd.R_alloc | apply Kd.R_drewN | apply Kd.R_drew)); exact Kd.R_mono HO125.out (fun _ hk => ⟨⟨hk.1.1.1.2, ⟨hk.1.1.2, hk.1.2⟩⟩, hk.2⟩)) hg hat); have n5_ := Aside0.mk (hb); have n6_ := Aside0.mk ((show Kd.C (Kd.int .i64) w33 Ao24 y119.length y119 from by rw [Ny119.out]; exact Kd.C_take (m := ((ji11) : Int).toNat) ((Kd.R_reads' (Kd.R_over' (by (with_reducible repeat (first | apply Kd.R_alloc | apply Kd.R_drewN | apply Kd.R_drew)); exact HO107.out) (Kd.R_typed (by (with_reducible repeat (first | apply Kd.R_alloc | apply Kd.R_drewN | apply Kd.R_drew)); exact HO118.out)) (by decide) hg)).2.2) KL31.out)); have n7_ := Aside0.mk (ho); clear HO105; clear HO107; clear HO110; clear HO113; clear HO125; clear HB; clear HR122; clear HO118; have HO105 := n0_; have HO107 := n1_; have HO110 := n2_; have HO113 := n3_; have HO125 := n4_; have HB := n5_; have HR122 := n6_; have HO128 := n7_; clear n0_ n1_ n2_ n3_ n4_ n5_ n6_ n7_; clear ho hb hg hat; have q35 : ((ji11) : Int) ≤ ((t103.length : Int) : Int) := of_decide_eq_true (by first | (with_reducible assumption) | assumption); obtain ⟨i035, hi035, _, hsz35, _⟩ := info_parts info3; have hroom35 : t103.length ≤ co24 := (Kd.R_reads' HO107.out).2.1; have hC35 : Kd.C (Kd.int .i64) _ Ao24 t103.length t103 := (Kd.R_reads' HO107.out).2.2; have q035 : (0 : Int) ≤ ((ji11) : Int) := of_decide_eq_true (by first | (with_reducible assumption) | assumption); have hcut35 := cut_from (P := Try.prog) 30 3 .i64 Try.underlying30 hi035 1 hsz35 Ao24 t103.length co24 (ji11) q035 q35; have hr35 := Kd.C_drop (m := ((ji11) : Int).toNat) (c := co24) hC35 (by omega) hroom35; obtain ⟨A35, hA35⟩ : ∃ A1, A1 = (if co24 = ((ji11) : Int).toNat then Ao24 else (Ao24 : Option Addr).map (·.add (((ji11) : Int).toNat * 1))) := ⟨_, rfl⟩; obtain ⟨c35, hc35⟩ : ∃ c1, c1 = co24 - ((ji11) : Int).toNat := ⟨_, rfl⟩; have hy35 : y129.length = t103.length - ((ji11) : Int).toNat := (by rw [Ny129.out, List.length_drop] <;> omega); rw [show (t103).drop ((ji11) : Int).toNat = y129 from Ny129.out.symm] at hr35; replace hr35 : Kd.C (Kd.int .i64) _ A35 y129.length y129 := (by rw [hA35]; exact hr35); rw [← hy35, ← hA35, ← hc35] at hcut35; have HR132 := Aside0.mk hr35; have HC132 := Aside0.mk (show y129.length ≤ c35 from by rw [hy35, hc35]; exact Nat.sub_le_sub_right hroom35 _); clear hr35 hC35 hroom35 hi035 hsz35 hc35; have KY35 := Aside0.mk hy35; have KA35 := Aside0.mk hA35; clear hy35 hA35; have KL35 := Aside0.mk (show ((ji11) : Int).toNat ≤ t103.length from by omega); replace q35 := eq_true q35) | ((with_reducible refine gate_callee (f := 17) rfl ?_); refine goesL_ (some 42) rfl rfl Try.func17 (by kernel_rfl) rfl #[.slice Ao23 t102.length co23, .slice A35 y129.length c35] rfl (by (try simp only [List.map_toArray, List.map_cons, List.map_nil]); first | done | rfl | (simp only [List.length_drop, List.length_take]; rfl)) ?_; (with_reducible refine (impl_Project.calls k _ _ t102 _ _ y129 t133 _ ?side1 ?side2 ?side3 ?side4 A18.out).mono ?_); (case side1 => repeat (first | exact (Kd.R_reads' HO105.out).2.2 | (with_reducible refine Kd.C_alloc ?_ _) | (with_reducible refine Kd.C_drewN ?_ _) | (with_reducible refine Kd.C_drew ?_))); (case side2 => exact (Kd.R_reads' HO105.out).2.1); (case side3 => repeat (first | exact (by repeat (first | (with_reducible exact HR132.out) | (with_reducible refine Kd.C_alloc ?_ _) | (with_reducible refine Kd.C_drewN ?_ _) | (with_reducible refine Kd.C_drew ?_) | exact HR132.out)) | (with_reducible refine Kd.C_alloc ?_ _) | (with_reducible refine Kd.C_drewN ?_ _) | (with_reducible refine Kd.C_drew ?_))); (case side4 => exact HC132.out); rintro e w36 ⟨v134, rfl, ho0, hb⟩; refine ⟨_, rfl, ?_⟩; have n0_ := Aside0.mk (Kd.R_elder' (by (with_reducible repeat (first | apply Kd.R_alloc | apply Kd.R_drewN | apply Kd.R_drew)); exact HO105.out) (Kd.R_base ho0) hb); have n1_ := Aside0.mk (Kd.R_below (by (with_reducible repeat (first | apply Kd.R_alloc | apply Kd.R_drewN | apply Kd.R_drew)); exact HO107.out) hb); have n2_ := Aside0.mk (Kd.R_elder' (by (with_reducible repeat (first | apply Kd.R_alloc | apply Kd.R_drewN | apply Kd.R_drew)); exact HO110.out) (Kd.R_base ho0) hb); have n3_ := Aside0.mk (Kd.R_elder' (by (with_reducible repeat (first | apply Kd.R_alloc | apply Kd.R_drewN | apply Kd.R_drew)); exact HO113.out) (Kd.R_base ho0) hb); have n4_ := Aside0.mk (Kd.R_elder' (by (with_reducible repeat (first | apply Kd.R_alloc | apply Kd.R_drewN | apply Kd.R_drew)); exact HO125.out) (Kd.R_base ho0) hb); have n5_ := Aside0.mk (Kd.R_elder' (by (with_reducible repeat (first | apply Kd.R_alloc | apply Kd.R_drewN | apply Kd.R_drew)); exact HO128.out) (Kd.R_base ho0) hb); have n6_ := Aside0.mk (Kd.R_lower (Kd.R_new' (Kd.R_new' (Kd.R_new' (Kd.R_new' (Kd.R_new' ho0 (Kd.R_lt (by (with_reducible repeat (first | apply Kd.R_alloc | apply Kd.R_drewN | apply Kd.R_drew)); exact HO105.out))) (Kd.R_lt (by (with_reducible repeat (first | apply Kd.R_alloc | apply Kd.R_drewN | apply Kd.R_drew)); exact HO110.out))) (Kd.R_lt (by (with_reducible repeat (first | apply Kd.R_alloc | apply Kd.R_drewN | apply Kd.R_drew)); exact HO113.out))) (Kd.R_lt (by (with_reducible repeat (first | apply Kd.R_alloc | apply Kd.R_drewN | apply Kd.R_drew)); exact HO125.out))) (Kd.R_lt (by (with_reducible repeat (first | apply Kd.R_alloc | apply Kd.R_drewN | apply Kd.R_drew)); exact HO128.out))) (below_size (by repeat (first | (with_reducible first | exact HB.out | apply below_alloc | apply pw_below_drewN | apply below_drew1) | exact HB.out)))); have n7_ := Aside0.mk (Kd.C_below (by repeat (first | (with_reducible exact HR122.out) | (with_reducible refine Kd.C_alloc ?_ _) | (with_reducible refine Kd.C_drewN ?_ _) | (with_reducible refine Kd.C_drew ?_) | exact HR122.out)) hb); have n8_ := Aside0.mk (Kd.C_below (by repeat (first | (with_reducible exact HR132.out) | (with_reducible refine Kd.C_alloc ?_ _) | (with_reducible refine Kd.C_drewN ?_ _) | (with_reducible refine Kd.C_drew ?_) | exact HR132.out)) hb); have n9_ := Aside0.mk (below_step (by repeat (first | (with_reducible first | exact HB.out | apply below_alloc | apply pw_below_drewN | apply below_drew1) | exact HB.out)) hb); clear HO105; clear HO107; clear HO110; clear HO113; clear HO125; clear HO128; clear HR122; clear HR132; clear HB; have HO105 := n0_; have HO107 := n1_; have HO110 := n2_; have HO113 := n3_; have HO125 := n4_; have HO128 := n5_; have HO135 := n6_; have HR122 := n7_; have HR132 := n8_; have HB := n9_; clear n0_ n1_ n2_ n3_ n4_ n5_ n6_ n7_ n8_ n9_; (try clear hb); (try clear hb2); (try clear hk); (try clear hi); (try clear ho0); obtain ⟨Ao38, co38, eo38⟩ := Kd.R_slice HO135.out; subst eo38) | ((with_reducible refine gate_builtin (b := .append) (xs := #[.tmp 37, .tmp 42]) rfl ?_); (try (refine gate_guard (by rfl) ?_; dsimp only)); at_builtin; refine Kd.R_append_rows k37 (w0 := w) w.heap.size rfl (.tmp 37) (.tmp 42) 24 37 (.agg #[(.int .i64 0), (.int .i64 0), (.string ⟨#[]⟩)]) 32 rfl Try.underlying24 info37 rfl (by decide) (by omega) v127 y126 t133 _ _ _ (fun k_ => some k_ ≠ (.slice Ao23 t102.length co23 : Value).ownBlock ∧ some k_ ≠ (.slice Ao27 t108.length co27 : Value).ownBlock ∧ some k_ ≠ (.slice Ao28 t111.length co28 : Value).ownBlock ∧ some k_ ≠ (.slice Ao34 t123.length co34 : Value).ownBlock ∧ some k_ ≠ (.slice Ao38 t133.length co38 : Value).ownBlock) (fun _ => False) rfl rfl ?aO ?aR (fun _ _ h => h) (fun _ h => h.elim) ?aF ?aB ?aS ?aL ?_; (case aR => repeat (first | exact (Kd.R_reads' HO135.out).2.2 | (with_reducible refine Kd.C_alloc ?_ _) | (with_reducible refine Kd.C_drewN ?_ _) | (with_reducible refine Kd.C_drew ?_))); (case aB => exact (by repeat (first | (with_reducible first | exact HB.out | apply below_alloc | apply pw_below_drewN | apply below_drew1) | exact HB.out))); (case aF => exact (fun k_ hk => ⟨Kd.fresh' (Kd.R_lt (by (with_reducible repeat (first | apply Kd.R_alloc | apply Kd.R_drewN | apply Kd.R_drew)); exact HO105.out)) k_ hk, Kd.fresh' (Kd.R_lt (by (with_reducible repeat (first | apply Kd.R_alloc | apply Kd.R_drewN | apply Kd.R_drew)); exact HO110.out)) k_ hk, Kd.fresh' (Kd.R_lt (by (with_reducible repeat (first | apply Kd.R_alloc | apply Kd.R_drewN | apply Kd.R_drew)); exact HO113.out)) k_ hk, Kd.fresh' (Kd.R_lt (by (with_reducible repeat (first | apply Kd.R_alloc | apply Kd.R_drewN | apply Kd.R_drew)); exact HO125.out)) k_ hk, Kd.fresh' (Kd.R_lt (by (with_reducible repeat (first | apply Kd.R_alloc | apply Kd.R_drewN | apply Kd.R_drew)); exact HO135.out)) k_ hk⟩)); (case aO => exact (by (with_reducible repeat (first | apply Kd.R_alloc | apply Kd.R_drewN | apply Kd.R_drew)); exact Kd.R_mono HO128.out (fun _ hk => ⟨hk.1.1, ⟨hk.1.2.1, ⟨hk.1.2.2.1, ⟨hk.1.2.2.2, hk.2⟩⟩⟩⟩))); (case aS => exact (below_size (by repeat (first | (with_reducible first | exact HB.out | apply below_alloc | apply pw_below_drewN | apply below_drew1) | exact HB.out)))); (case aL => have := LMc19.out; omega); intro v137 w37 ho hb hg hat; rw [← Ny136.out] at ho; have n0_ := Aside0.mk (Kd.R_after (ok := (fun k_ => some k_ ≠ (.slice Ao27 t108.length co27 : Value).ownBlock ∧ some k_ ≠ (.slice Ao28 t111.length co28 : Value).ownBlock ∧ some k_ ≠ (.slice Ao34 t123.length co34 : Value).ownBlock ∧ some k_ ≠ (.slice Ao38 t133.length co38 : Value).ownBlock)) (by (with_reducible repeat (first | apply Kd.R_alloc | apply Kd.R_drewN | apply Kd.R_drew)); exact Kd.R_mono HO105.out (fun _ hk => ⟨⟨hk.1.1.1, ⟨hk.1.1.2.1, ⟨hk.1.1.2.2, hk.2⟩⟩⟩, hk.1.2⟩)) hg hat); have n1_ := Aside0.mk (Kd.R_over' (by (with_reducible repeat (first | apply Kd.R_alloc | apply Kd.R_drewN | apply Kd.R_drew)); exact HO107.out) (Kd.R_typed (by (with_reducible repeat (first | apply Kd.R_alloc | apply Kd.R_drewN | apply Kd.R_drew)); exact HO128.out)) (by decide) hg); have n2_ := Aside0.mk (Kd.R_after (ok := (fun k_ => some k_ ≠ (.slice Ao23 t102.length co23 : Value).ownBlock ∧ some k_ ≠ (.slice Ao28 t111.length co28 : Value).ownBlock ∧ some k_ ≠ (.slice Ao34 t123.length co34 : Value).ownBlock ∧ some k_ ≠ (.slice Ao38 t133.length co38 : Value).ownBlock)) (by (with_reducible repeat (first | apply Kd.R_alloc | apply Kd.R_drewN | apply Kd.R_drew)); exact Kd.R_mono HO110.out (fun _ hk => ⟨⟨hk.1.1.1, ⟨hk.1.1.2.1, ⟨hk.1.1.2.2, hk.2⟩⟩⟩, hk.1.2⟩)) hg hat); have n3_ := Aside0.mk (Kd.R_after (ok := (fun k_ => some k_ ≠ (.slice Ao23 t102.length co23 : Value).ownBlock ∧ some k_ ≠ (.slice Ao27 t108.length co27 : Value).ownBlock ∧ some k_ ≠ (.slice Ao34 t123.length co34 : Value).ownBlock ∧ some k_ ≠ (.slice Ao38 t133.length co38 : Value).ownBlock)) (by (with_reducible repeat (first | apply Kd.R_alloc | apply Kd.R_drewN | apply Kd.R_drew)); exact Kd.R_mono HO113.out (fun _ hk => ⟨⟨hk.1.1.1, ⟨hk.1.1.2.1, ⟨hk.1.1.2.2, hk.2⟩⟩⟩, hk.1.2⟩)) hg hat); have n4_ := Aside0.mk (Kd.R_after (ok := (fun k_ => some k_ ≠ (.slice Ao23 t102.length co23 : Value).ownBlock ∧ some k_ ≠ (.slice Ao27 t108.length co27 : Value).ownBlock ∧ some k_ ≠ (.slice Ao28 t111.length co28 : Value).ownBlock ∧ some k_ ≠ (.slice Ao38 t133.length co38 : Value).ownBlock)) (by (with_reducible repeat (first | apply Kd.R_alloc | apply Kd.R_drewN | apply Kd.R_drew)); exact Kd.R_mono HO125.out (fun _ hk => ⟨⟨hk.1.1.1, ⟨hk.1.1.2.1, ⟨hk.1.1.2.2, hk.2⟩⟩⟩, hk.1.2⟩)) hg hat); have n5_ := Aside0.mk (Kd.R_after (ok := (fun k_ => some k_ ≠ (.slice Ao23 t102.length co23 : Value).ownBlock ∧ some k_ ≠ (.slice Ao27 t108.length co27 : Value).ownBlock ∧ some k_ ≠ (.slice Ao28 t111.length co28 : Value).ownBlock ∧ some k_ ≠ (.slice Ao34 t123.length co34 : Value).ownBlock)) (by (with_reducible repeat (first | apply Kd.R_alloc | apply Kd.R_drewN | apply Kd.R_drew)); exact Kd.R_mono HO135.out (fun _ hk => ⟨⟨hk.1.1.1.1.2, ⟨hk.1.1.1.2, ⟨hk.1.1.2, hk.1.2⟩⟩⟩, hk.2⟩)) hg hat); have n6_ := Aside0.mk (hb); have n7_ := Aside0.mk ((show Kd.C (Kd.int .i64) w37 Ao24 y119.length y119 from by rw [Ny119.out]; exact Kd.C_take (m := ((ji11) : Int).toNat) ((Kd.R_reads' (Kd.R_over' (by (with_reducible repeat (first | apply Kd.R_alloc | apply Kd.R_drewN | apply Kd.R_drew)); exact HO107.out) (Kd.R_typed (by (with_reducible repeat (first | apply Kd.R_alloc | apply Kd.R_drewN | apply Kd.R_drew)); exact HO128.out)) (by decide) hg)).2.2) KL31.out)); have n8_ := Aside0.mk ((show Kd.C (Kd.int .i64) w37 A35 y129.length y129 from by rw [Ny129.out, KA35.out]; exact Kd.C_drop (m := ((ji11) : Int).toNat) (c := co24) ((Kd.R_reads' (Kd.R_over' (by (with_reducible repeat (first | apply Kd.R_alloc | apply Kd.R_drewN | apply Kd.R_drew)); exact HO107.out) (Kd.R_typed (by (with_reducible repeat (first | apply Kd.R_alloc | apply Kd.R_drewN | apply Kd.R_drew)); exact HO128.out)) (by decide) hg)).2.2) KL35.out ((Kd.R_reads' (Kd.R_over' (by (with_reducible repeat (first | apply Kd.R_alloc | apply Kd.R_drewN | apply Kd.R_drew)); exact HO107.out) (Kd.R_typed (by (with_reducible repeat (first | apply Kd.R_alloc | apply Kd.R_drewN | apply Kd.R_drew)); exact HO128.out)) (by decide) hg)).2.1))); have n9_ := Aside0.mk (ho); clear HO105; clear HO107; clear HO110; clear HO113; clear HO125; clear HO135; clear HB; clear HR122; clear HR132; clear HO128; have HO105 := n0_; have HO107 := n1_; have HO110 := n2_; have HO113 := n3_; have HO125 := n4_; have HO135 := n5_; have HB := n6_; have HR122 := n7_; have HR132 := n8_; have HO138 := n9_; clear n0_ n1_ n2_ n3_ n4_ n5_ n6_ n7_ n8_ n9_; clear ho hb hg hat; obtain ⟨Ao39, co39, eo39⟩ := Kd.R_slice HO138.out; subst eo39) | ((with_reducible refine gate_callee (f := 15) rfl ?_); refine goesL_ (some 45) rfl rfl Try.func15 (by kernel_rfl) rfl #[.slice Ao39 y136.length co39, .slice Ao27 t108.length co27] rfl (by (try simp only [List.map_toArray, List.map_cons, List.map_nil]); first | done | rfl | (simp only [List.length_drop, List.length_take]; rfl)) ?_; (with_reducible refine (laws_sameTuple.calls k _ _ y136 _ _ t108 true _ ?side1 ?side2 ?side3 ?side4 A20.out).mono ?_); (case side1 => repeat (first | exact (Kd.R_reads' HO138.out).2.2 | (with_reducible refine Kd.C_alloc ?_ _) | (with_reducible refine Kd.C_drewN ?_ _) | (with_reducible refine Kd.C_drew ?_))); (case side2 => exact (Kd.R_reads' HO138.out).2.1); (case side3 => repeat (first | exact (Kd.R_reads' HO110.out).2.2 | (with_reducible refine Kd.C_alloc ?_ _) | (with_reducible refine Kd.C_drewN ?_ _) | (with_reducible refine Kd.C_drew ?_))); (case side4 => exact (Kd.R_reads' HO110.out).2.1); rintro e w' ⟨rfl, ⟨nd, rfl⟩⟩; refine ⟨_, rfl, ?_⟩))
                  go_ret
                  exact ⟨by first | rfl | (simp [errW_none, errW_some] <;> rfl) | (simp only [← hji11]; first | rfl | (simp [errW_none, errW_some] <;> rfl)) | (simp [*, errW_none, errW_some] <;> rfl), by repeat (first | (with_reducible first | exact HB.out | apply below_alloc | apply pw_below_drewN | apply below_drew1) | exact HB.out)⟩
                · replace c21 := Bool.eq_false_iff.mpr c21
                  subst c21
                  have H1 : (some false) = some r := by rw [if_neg (show ¬ (false = true) by decide)] at H; exact H
                  clear H
                  have H := H1
                  clear H1
                  obtain rfl := Option.some.inj H
                  go_enter Try.func4, Try.ntmps4
                  go_wp2_with (first | ((with_reducible refine gate_callee (f := 9) rfl ?_); refine goesL_ (some 9) rfl rfl Try.func9 (by kernel_rfl) rfl #[.slice A0 l0.length c0] rfl (by (try simp only [List.map_toArray, List.map_cons, List.map_nil]); first | done | rfl | (simp only [List.length_drop, List.length_take]; rfl)) ?_; (with_reducible refine (laws_big.calls _ _ l0 false _ ?side1 ?side2 A2.out).mono ?_); (case side1 => repeat (first | exact HR0.out | (with_reducible refine Kd.C_alloc ?_ _) | (with_reducible refine Kd.C_drewN ?_ _) | (with_reducible refine Kd.C_drew ?_))); (case side2 => exact HC0.out); rintro e w' ⟨rfl, ⟨nd, rfl⟩⟩; refine ⟨_, rfl, ?_⟩) | ((with_reducible refine gate_callee (f := 16) rfl ?_); refine goesL_ (some 12) rfl rfl Try.func16 (by kernel_rfl) rfl #[.slice A0 l0.length c0] rfl (by (try simp only [List.map_toArray, List.map_cons, List.map_nil]); first | done | rfl | (simp only [List.length_drop, List.length_take]; rfl)) ?_; (with_reducible refine (spec_DrawProject.calls k _ _ l0 t102 t103 _ ?side1 ?side2 A4.out).mono ?_); (case side1 => repeat (first | exact HR0.out | (with_reducible refine Kd.C_alloc ?_ _) | (with_reducible refine Kd.C_drewN ?_ _) | (with_reducible refine Kd.C_drew ?_))); (case side2 => exact HC0.out); rintro e w40 ⟨v104, v106, rfl, ho0, ho1, hb⟩; refine ⟨_, rfl, ?_⟩; have n0_ := Aside0.mk (Kd.R_lower ho0 (below_size (by repeat (first | (with_reducible first | exact HB.out | apply below_alloc | apply pw_below_drewN | apply below_drew1) | exact HB.out)))); have n1_ := Aside0.mk (Kd.R_lower ho1 (below_size (by repeat (first | (with_reducible first | exact HB.out | apply below_alloc | apply pw_below_drewN | apply below_drew1) | exact HB.out)))); have n2_ := Aside0.mk (below_step (by repeat (first | (with_reducible first | exact HB.out | apply below_alloc | apply pw_below_drewN | apply below_drew1) | exact HB.out)) hb); clear HB; have HO105 := n0_; have HO107 := n1_; have HB := n2_; clear n0_ n1_ n2_; (try clear hb); (try clear hb2); (try clear hk); (try clear hi); (try clear ho0); (try clear ho1); obtain ⟨Ao41, co41, eo41⟩ := Kd.R_slice HO105.out; subst eo41; obtain ⟨Ao42, co42, eo42⟩ := Kd.R_slice HO107.out; subst eo42) | ((with_reducible refine gate_callee (f := 17) rfl ?_); refine goesL_ (some 17) rfl rfl Try.func17 (by kernel_rfl) rfl #[.slice Ao41 t102.length co41, .slice Ao42 t103.length co42] rfl (by (try simp only [List.map_toArray, List.map_cons, List.map_nil]); first | done | rfl | (simp only [List.length_drop, List.length_take]; rfl)) ?_; (with_reducible refine (impl_Project.calls k _ _ t102 _ _ t103 t108 _ ?side1 ?side2 ?side3 ?side4 A5.out).mono ?_); (case side1 => repeat (first | exact (Kd.R_reads' HO105.out).2.2 | (with_reducible refine Kd.C_alloc ?_ _) | (with_reducible refine Kd.C_drewN ?_ _) | (with_reducible refine Kd.C_drew ?_))); (case side2 => exact (Kd.R_reads' HO105.out).2.1); (case side3 => repeat (first | exact (Kd.R_reads' HO107.out).2.2 | (with_reducible refine Kd.C_alloc ?_ _) | (with_reducible refine Kd.C_drewN ?_ _) | (with_reducible refine Kd.C_drew ?_))); (case side4 => exact (Kd.R_reads' HO107.out).2.1); rintro e w43 ⟨v109, rfl, ho0, hb⟩; refine ⟨_, rfl, ?_⟩; have n0_ := Aside0.mk (Kd.R_elder' (by (with_reducible repeat (first | apply Kd.R_alloc | apply Kd.R_drewN | apply Kd.R_drew)); exact HO105.out) (Kd.R_base ho0) hb); have n1_ := Aside0.mk (Kd.R_below (by (with_reducible repeat (first | apply Kd.R_alloc | apply Kd.R_drewN | apply Kd.R_drew)); exact HO107.out) hb); have n2_ := Aside0.mk (Kd.R_lower (Kd.R_new' ho0 (Kd.R_lt (by (with_reducible repeat (first | apply Kd.R_alloc | apply Kd.R_drewN | apply Kd.R_drew)); exact HO105.out))) (below_size (by repeat (first | (with_reducible first | exact HB.out | apply below_alloc | apply pw_below_drewN | apply below_drew1) | exact HB.out)))); have n3_ := Aside0.mk (below_step (by repeat (first | (with_reducible first | exact HB.out | apply below_alloc | apply pw_below_drewN | apply below_drew1) | exact HB.out)) hb); clear HO105; clear HO107; clear HB; have HO105 := n0_; have HO107 := n1_; have HO110 := n2_; have HB := n3_; clear n0_ n1_ n2_ n3_; (try clear hb); (try clear hb2); (try clear hk); (try clear hi); (try clear ho0)) | ((with_reducible refine gate_callee (f := 18) rfl ?_); refine goesL_ (some 21) rfl rfl Try.func18 (by kernel_rfl) rfl #[.slice Ao41 t102.length co41, .slice Ao42 t103.length co42] rfl (by (try simp only [List.map_toArray, List.map_cons, List.map_nil]); first | done | rfl | (simp only [List.length_drop, List.length_take]; rfl)) ?_; (with_reducible refine (spec_Project.calls k _ _ t102 _ _ t103 t111 _ ?side1 ?side2 ?side3 ?side4 A6.out).mono ?_); (case side1 => repeat (first | exact (Kd.R_reads' HO105.out).2.2 | (with_reducible refine Kd.C_alloc ?_ _) | (with_reducible refine Kd.C_drewN ?_ _) | (with_reducible refine Kd.C_drew ?_))); (case side2 => exact (Kd.R_reads' HO105.out).2.1); (case side3 => repeat (first | exact (Kd.R_reads' HO107.out).2.2 | (with_reducible refine Kd.C_alloc ?_ _) | (with_reducible refine Kd.C_drewN ?_ _) | (with_reducible refine Kd.C_drew ?_))); (case side4 => exact (Kd.R_reads' HO107.out).2.1); rintro e w44 ⟨v112, rfl, ho0, hb⟩; refine ⟨_, rfl, ?_⟩; have n0_ := Aside0.mk (Kd.R_elder' (by (with_reducible repeat (first | apply Kd.R_alloc | apply Kd.R_drewN | apply Kd.R_drew)); exact HO105.out) (Kd.R_base ho0) hb); have n1_ := Aside0.mk (Kd.R_below (by (with_reducible repeat (first | apply Kd.R_alloc | apply Kd.R_drewN | apply Kd.R_drew)); exact HO107.out) hb); have n2_ := Aside0.mk (Kd.R_elder' (by (with_reducible repeat (first | apply Kd.R_alloc | apply Kd.R_drewN | apply Kd.R_drew)); exact HO110.out) (Kd.R_base ho0) hb); have n3_ := Aside0.mk (Kd.R_lower (Kd.R_new' (Kd.R_new' ho0 (Kd.R_lt (by (with_reducible repeat (first | apply Kd.R_alloc | apply Kd.R_drewN | apply Kd.R_drew)); exact HO105.out))) (Kd.R_lt (by (with_reducible repeat (first | apply Kd.R_alloc | apply Kd.R_drewN | apply Kd.R_drew)); exact HO110.out))) (below_size (by repeat (first | (with_reducible first | exact HB.out | apply below_alloc | apply pw_below_drewN | apply below_drew1) | exact HB.out)))); have n4_ := Aside0.mk (below_step (by repeat (first | (with_reducible first | exact HB.out | apply below_alloc | apply pw_below_drewN | apply below_drew1) | exact HB.out)) hb); clear HO105; clear HO107; clear HO110; clear HB; have HO105 := n0_; have HO107 := n1_; have HO110 := n2_; have HO113 := n3_; have HB := n4_; clear n0_ n1_ n2_ n3_ n4_; (try clear hb); (try clear hb2); (try clear hk); (try clear hi); (try clear ho0); obtain ⟨Ao45, co45, eo45⟩ := Kd.R_slice HO110.out; subst eo45; obtain ⟨Ao46, co46, eo46⟩ := Kd.R_slice HO113.out; subst eo46) | ((with_reducible refine gate_callee (f := 15) rfl ?_); refine goesL_ (some 22) rfl rfl Try.func15 (by kernel_rfl) rfl #[.slice Ao45 t108.length co45, .slice Ao46 t111.length co46] rfl (by (try simp only [List.map_toArray, List.map_cons, List.map_nil]); first | done | rfl | (simp only [List.length_drop, List.length_take]; rfl)) ?_; (with_reducible refine (laws_sameTuple.calls k _ _ t108 _ _ t111 true _ ?side1 ?side2 ?side3 ?side4 A7.out).mono ?_); (case side1 => repeat (first | exact (Kd.R_reads' HO110.out).2.2 | (with_reducible refine Kd.C_alloc ?_ _) | (with_reducible refine Kd.C_drewN ?_ _) | (with_reducible refine Kd.C_drew ?_))); (case side2 => exact (Kd.R_reads' HO110.out).2.1); (case side3 => repeat (first | exact (Kd.R_reads' HO113.out).2.2 | (with_reducible refine Kd.C_alloc ?_ _) | (with_reducible refine Kd.C_drewN ?_ _) | (with_reducible refine Kd.C_drew ?_))); (case side4 => exact (Kd.R_reads' HO113.out).2.1); rintro e w' ⟨rfl, ⟨nd, rfl⟩⟩; refine ⟨_, rfl, ?_⟩) | ((with_reducible refine gate_callee (f := 19) rfl ?_); refine goesL_ (some 25) rfl rfl Try.func19 (by kernel_rfl) rfl #[.slice A0 l0.length c0, .int .i64 1] rfl (by (try simp only [List.map_toArray, List.map_cons, List.map_nil]); first | done | rfl | (simp only [List.length_drop, List.length_take]; rfl)) ?_; (with_reducible refine (laws_at.calls _ _ l0 1 t115 _ ?side1 ?side2 A9.out).mono ?_); (case side1 => repeat (first | exact (Kd.C_below HR0.out (by repeat (first | (with_reducible first | exact HB.out | apply below_alloc | apply pw_below_drewN | apply below_drew1) | exact HB.out))) | (with_reducible refine Kd.C_alloc ?_ _) | (with_reducible refine Kd.C_drewN ?_ _) | (with_reducible refine Kd.C_drew ?_))); (case side2 => exact HC0.out); rintro e w' ⟨rfl, ⟨nd, rfl⟩⟩; refine ⟨_, rfl, ?_⟩) | ((with_reducible refine gate_dst (N := 30) rfl ?_); (try (refine gate_guard (by rfl) ?_; dsimp only)); refine Kd.R_lit k37 _ 37 ?hg (N := 30) ?hd (xs := ([] : List (S37))) (inner := []) (ok := fun _ => True) (okp := fun _ => True) ?hr ?hp (fun _ hk => hk) trivial (Below.refl _ _) (Nat.le_refl _) (by simp) ?_; (case hd => rfl); (case hg => rfl); (case hr => first | (go_simp; done) | (go_simp; rfl)); (case hp => exact (Reps.none _ _)); intro v117 w47 ho48 hb hg_ hnew_; clear hg_ hnew_; (first | rw [← Ny116.out] at ho48 | (simp only [Int.reduceToNat] at ho48; rw [← Ny116.out] at ho48)); have n0_ := Aside0.mk (Kd.R_elder' (by (with_reducible repeat (first | apply Kd.R_alloc | apply Kd.R_drewN | apply Kd.R_drew)); exact HO105.out) (Kd.R_base ho48) hb); have n1_ := Aside0.mk (Kd.R_below (by (with_reducible repeat (first | apply Kd.R_alloc | apply Kd.R_drewN | apply Kd.R_drew)); exact HO107.out) hb); have n2_ := Aside0.mk (Kd.R_elder' (by (with_reducible repeat (first | apply Kd.R_alloc | apply Kd.R_drewN | apply Kd.R_drew)); exact HO110.out) (Kd.R_base ho48) hb); have n3_ := Aside0.mk (Kd.R_elder' (by (with_reducible repeat (first | apply Kd.R_alloc | apply Kd.R_drewN | apply Kd.R_drew)); exact HO113.out) (Kd.R_base ho48) hb); have n4_ := Aside0.mk (Kd.R_lower (Kd.R_new' (Kd.R_new' (Kd.R_new' ho48 (Kd.R_lt (by (with_reducible repeat (first | apply Kd.R_alloc | apply Kd.R_drewN | apply Kd.R_drew)); exact HO105.out))) (Kd.R_lt (by (with_reducible repeat (first | apply Kd.R_alloc | apply Kd.R_drewN | apply Kd.R_drew)); exact HO110.out))) (Kd.R_lt (by (with_reducible repeat (first | apply Kd.R_alloc | apply Kd.R_drewN | apply Kd.R_drew)); exact HO113.out))) (below_size (by repeat (first | (with_reducible first | exact HB.out | apply below_alloc | apply pw_below_drewN | apply below_drew1) | exact HB.out)))); have n5_ := Aside0.mk (below_step (by repeat (first | (with_reducible first | exact HB.out | apply below_alloc | apply pw_below_drewN | apply below_drew1) | exact HB.out)) hb); clear HO105; clear HO107; clear HO110; clear HO113; clear HB; have HO105 := n0_; have HO107 := n1_; have HO110 := n2_; have HO113 := n3_; have HO118 := n4_; have HB := n5_; clear n0_ n1_ n2_ n3_ n4_ n5_; clear hb ho48; have q49 : ((ji11) : Int) ≤ ((t103.length : Int) : Int) := of_decide_eq_true (by first | (with_reducible assumption) | assumption); obtain ⟨i049, hi049, _, hsz49, _⟩ := info_parts info3; have hroom49 : t103.length ≤ co42 := (Kd.R_reads' HO107.out).2.1; have hC49 : Kd.C (Kd.int .i64) _ Ao42 t103.length t103 := (Kd.R_reads' HO107.out).2.2; have hcut49 := cut_to (P := Try.prog) 30 3 .i64 Try.underlying30 hi049 Ao42 t103.length co42 (ji11) (of_decide_eq_true (by first | (with_reducible assumption) | assumption)) q49 hroom49; have hr49 := Kd.C_take (m := ((ji11) : Int).toNat) hC49 (by omega); have hy49 : y119.length = ((ji11) : Int).toNat := (by rw [Ny119.out, List.length_take]; omega); rw [← Ny119.out] at hr49; rw [← hy49] at hcut49; have HR122 := Aside0.mk hr49; have HC122 := Aside0.mk (show y119.length ≤ co42 from by omega); clear hr49 hC49 hroom49 hi049 hsz49; have KY49 := Aside0.mk hy49; clear hy49; have KL49 := Aside0.mk (show ((ji11) : Int).toNat ≤ t103.length from by omega); replace q49 := eq_true q49) | ((with_reducible refine gate_callee (f := 17) rfl ?_); refine goesL_ (some 35) rfl rfl Try.func17 (by kernel_rfl) rfl #[.slice Ao41 t102.length co41, .slice Ao42 y119.length co42] rfl (by (try simp only [List.map_toArray, List.map_cons, List.map_nil]); first | done | rfl | (simp only [List.length_drop, List.length_take]; rfl)) ?_; (with_reducible refine (impl_Project.calls k _ _ t102 _ _ y119 t123 _ ?side1 ?side2 ?side3 ?side4 A14.out).mono ?_); (case side1 => repeat (first | exact (Kd.R_reads' HO105.out).2.2 | (with_reducible refine Kd.C_alloc ?_ _) | (with_reducible refine Kd.C_drewN ?_ _) | (with_reducible refine Kd.C_drew ?_))); (case side2 => exact (Kd.R_reads' HO105.out).2.1); (case side3 => repeat (first | exact (by repeat (first | (with_reducible exact HR122.out) | (with_reducible refine Kd.C_alloc ?_ _) | (with_reducible refine Kd.C_drewN ?_ _) | (with_reducible refine Kd.C_drew ?_) | exact HR122.out)) | (with_reducible refine Kd.C_alloc ?_ _) | (with_reducible refine Kd.C_drewN ?_ _) | (with_reducible refine Kd.C_drew ?_))); (case side4 => exact HC122.out); rintro e w50 ⟨v124, rfl, ho0, hb⟩; refine ⟨_, rfl, ?_⟩; have n0_ := Aside0.mk (Kd.R_elder' (by (with_reducible repeat (first | apply Kd.R_alloc | apply Kd.R_drewN | apply Kd.R_drew)); exact HO105.out) (Kd.R_base ho0) hb); have n1_ := Aside0.mk (Kd.R_below (by (with_reducible repeat (first | apply Kd.R_alloc | apply Kd.R_drewN | apply Kd.R_drew)); exact HO107.out) hb); have n2_ := Aside0.mk (Kd.R_elder' (by (with_reducible repeat (first | apply Kd.R_alloc | apply Kd.R_drewN | apply Kd.R_drew)); exact HO110.out) (Kd.R_base ho0) hb); have n3_ := Aside0.mk (Kd.R_elder' (by (with_reducible repeat (first | apply Kd.R_alloc | apply Kd.R_drewN | apply Kd.R_drew)); exact HO113.out) (Kd.R_base ho0) hb); have n4_ := Aside0.mk (Kd.R_elder' (by (with_reducible repeat (first | apply Kd.R_alloc | apply Kd.R_drewN | apply Kd.R_drew)); exact HO118.out) (Kd.R_base ho0) hb); have n5_ := Aside0.mk (Kd.R_lower (Kd.R_new' (Kd.R_new' (Kd.R_new' (Kd.R_new' ho0 (Kd.R_lt (by (with_reducible repeat (first | apply Kd.R_alloc | apply Kd.R_drewN | apply Kd.R_drew)); exact HO105.out))) (Kd.R_lt (by (with_reducible repeat (first | apply Kd.R_alloc | apply Kd.R_drewN | apply Kd.R_drew)); exact HO110.out))) (Kd.R_lt (by (with_reducible repeat (first | apply Kd.R_alloc | apply Kd.R_drewN | apply Kd.R_drew)); exact HO113.out))) (Kd.R_lt (by (with_reducible repeat (first | apply Kd.R_alloc | apply Kd.R_drewN | apply Kd.R_drew)); exact HO118.out))) (below_size (by repeat (first | (with_reducible first | exact HB.out | apply below_alloc | apply pw_below_drewN | apply below_drew1) | exact HB.out)))); have n6_ := Aside0.mk (Kd.C_below (by repeat (first | (with_reducible exact HR122.out) | (with_reducible refine Kd.C_alloc ?_ _) | (with_reducible refine Kd.C_drewN ?_ _) | (with_reducible refine Kd.C_drew ?_) | exact HR122.out)) hb); have n7_ := Aside0.mk (below_step (by repeat (first | (with_reducible first | exact HB.out | apply below_alloc | apply pw_below_drewN | apply below_drew1) | exact HB.out)) hb); clear HO105; clear HO107; clear HO110; clear HO113; clear HO118; clear HR122; clear HB; have HO105 := n0_; have HO107 := n1_; have HO110 := n2_; have HO113 := n3_; have HO118 := n4_; have HO125 := n5_; have HR122 := n6_; have HB := n7_; clear n0_ n1_ n2_ n3_ n4_ n5_ n6_ n7_; (try clear hb); (try clear hb2); (try clear hk); (try clear hi); (try clear ho0); obtain ⟨Ao52, co52, eo52⟩ := Kd.R_slice HO125.out; subst eo52) | ((with_reducible refine gate_builtin (b := .append) (xs := #[.tmp 30, .tmp 35]) rfl ?_); (try (refine gate_guard (by rfl) ?_; dsimp only)); at_builtin; refine Kd.R_append_rows k37 (w0 := w) w.heap.size rfl (.tmp 30) (.tmp 35) 24 37 (.agg #[(.int .i64 0), (.int .i64 0), (.string ⟨#[]⟩)]) 32 rfl Try.underlying24 info37 rfl (by decide) (by omega) v117 y116 t123 _ _ _ (fun k_ => some k_ ≠ (.slice Ao41 t102.length co41 : Value).ownBlock ∧ some k_ ≠ (.slice Ao45 t108.length co45 : Value).ownBlock ∧ some k_ ≠ (.slice Ao46 t111.length co46 : Value).ownBlock ∧ some k_ ≠ (.slice Ao52 t123.length co52 : Value).ownBlock) (fun _ => False) rfl rfl ?aO ?aR (fun _ _ h => h) (fun _ h => h.elim) ?aF ?aB ?aS ?aL ?_; (case aR => repeat (first | exact (Kd.R_reads' HO125.out).2.2 | (with_reducible refine Kd.C_alloc ?_ _) | (with_reducible refine Kd.C_drewN ?_ _) | (with_reducible refine Kd.C_drew ?_))); (case aB => exact (by repeat (first | (with_reducible first | exact HB.out | apply below_alloc | apply pw_below_drewN | apply below_drew1) | exact HB.out))); (case aF => exact (fun k_ hk => ⟨Kd.fresh' (Kd.R_lt (by (with_reducible repeat (first | apply Kd.R_alloc | apply Kd.R_drewN | apply Kd.R_drew)); exact HO105.out)) k_ hk, Kd.fresh' (Kd.R_lt (by (with_reducible repeat (first | apply Kd.R_alloc | apply Kd.R_drewN | apply Kd.R_drew)); exact HO110.out)) k_ hk, Kd.fresh' (Kd.R_lt (by (with_reducible repeat (first | apply Kd.R_alloc | apply Kd.R_drewN | apply Kd.R_drew)); exact HO113.out)) k_ hk, Kd.fresh' (Kd.R_lt (by (with_reducible repeat (first | apply Kd.R_alloc | apply Kd.R_drewN | apply Kd.R_drew)); exact HO125.out)) k_ hk⟩)); (case aO => exact (by (with_reducible repeat (first | apply Kd.R_alloc | apply Kd.R_drewN | apply Kd.R_drew)); exact Kd.R_mono HO118.out (fun _ hk => ⟨hk.1.1.1.2, ⟨hk.1.1.2, ⟨hk.1.2, hk.2⟩⟩⟩))); (case aS => exact (below_size (by repeat (first | (with_reducible first | exact HB.out | apply below_alloc | apply pw_below_drewN | apply below_drew1) | exact HB.out)))); (case aL => have := LMc15.out; omega); intro v127 w51 ho hb hg hat; rw [← Ny126.out] at ho; have n0_ := Aside0.mk (Kd.R_after (ok := (fun k_ => some k_ ≠ (.slice Ao45 t108.length co45 : Value).ownBlock ∧ some k_ ≠ (.slice Ao46 t111.length co46 : Value).ownBlock ∧ some k_ ≠ (.slice Ao52 t123.length co52 : Value).ownBlock)) (by (with_reducible repeat (first | apply Kd.R_alloc | apply Kd.R_drewN | apply Kd.R_drew)); exact Kd.R_mono HO105.out (fun _ hk => ⟨⟨hk.1.1.1.2, ⟨hk.1.1.2, hk.2⟩⟩, hk.1.2⟩)) hg hat); have n1_ := Aside0.mk (Kd.R_over' (by (with_reducible repeat (first | apply Kd.R_alloc | apply Kd.R_drewN | apply Kd.R_drew)); exact HO107.out) (Kd.R_typed (by (with_reducible repeat (first | apply Kd.R_alloc | apply Kd.R_drewN | apply Kd.R_drew)); exact HO118.out)) (by decide) hg); have n2_ := Aside0.mk (Kd.R_after (ok := (fun k_ => some k_ ≠ (.slice Ao41 t102.length co41 : Value).ownBlock ∧ some k_ ≠ (.slice Ao46 t111.length co46 : Value).ownBlock ∧ some k_ ≠ (.slice Ao52 t123.length co52 : Value).ownBlock)) (by (with_reducible repeat (first | apply Kd.R_alloc | apply Kd.R_drewN | apply Kd.R_drew)); exact Kd.R_mono HO110.out (fun _ hk => ⟨⟨hk.1.1.1.2, ⟨hk.1.1.2, hk.2⟩⟩, hk.1.2⟩)) hg hat); have n3_ := Aside0.mk (Kd.R_after (ok := (fun k_ => some k_ ≠ (.slice Ao41 t102.length co41 : Value).ownBlock ∧ some k_ ≠ (.slice Ao45 t108.length co45 : Value).ownBlock ∧ some k_ ≠ (.slice Ao52 t123.length co52 : Value).ownBlock)) (by (with_reducible repeat (first | apply Kd.R_alloc | apply Kd.R_drewN | apply Kd.R_drew)); exact Kd.R_mono HO113.out (fun _ hk => ⟨⟨hk.1.1.1.2, ⟨hk.1.1.2, hk.2⟩⟩, hk.1.2⟩)) hg hat); have n4_ := Aside0.mk (Kd.R_after (ok := (fun k_ => some k_ ≠ (.slice Ao41 t102.length co41 : Value).ownBlock ∧ some k_ ≠ (.slice Ao45 t108.length co45 : Value).ownBlock ∧ some k_ ≠ (.slice Ao46 t111.length co46 : Value).ownBlock)) (by (with_reducible repeat (first | apply Kd.R_alloc | apply Kd.R_drewN | apply Kd.R_drew)); exact Kd.R_mono HO125.out (fun _ hk => ⟨⟨hk.1.1.1.2, ⟨hk.1.1.2, hk.1.2⟩⟩, hk.2⟩)) hg hat); have n5_ := Aside0.mk (hb); have n6_ := Aside0.mk ((show Kd.C (Kd.int .i64) w51 Ao42 y119.length y119 from by rw [Ny119.out]; exact Kd.C_take (m := ((ji11) : Int).toNat) ((Kd.R_reads' (Kd.R_over' (by (with_reducible repeat (first | apply Kd.R_alloc | apply Kd.R_drewN | apply Kd.R_drew)); exact HO107.out) (Kd.R_typed (by (with_reducible repeat (first | apply Kd.R_alloc | apply Kd.R_drewN | apply Kd.R_drew)); exact HO118.out)) (by decide) hg)).2.2) KL49.out)); have n7_ := Aside0.mk (ho); clear HO105; clear HO107; clear HO110; clear HO113; clear HO125; clear HB; clear HR122; clear HO118; have HO105 := n0_; have HO107 := n1_; have HO110 := n2_; have HO113 := n3_; have HO125 := n4_; have HB := n5_; have HR122 := n6_; have HO128 := n7_; clear n0_ n1_ n2_ n3_ n4_ n5_ n6_ n7_; clear ho hb hg hat; have q53 : ((ji11) : Int) ≤ ((t103.length : Int) : Int) := of_decide_eq_true (by first | (with_reducible assumption) | assumption); obtain ⟨i053, hi053, _, hsz53, _⟩ := info_parts info3; have hroom53 : t103.length ≤ co42 := (Kd.R_reads' HO107.out).2.1; have hC53 : Kd.C (Kd.int .i64) _ Ao42 t103.length t103 := (Kd.R_reads' HO107.out).2.2; have q053 : (0 : Int) ≤ ((ji11) : Int) := of_decide_eq_true (by first | (with_reducible assumption) | assumption); have hcut53 := cut_from (P := Try.prog) 30 3 .i64 Try.underlying30 hi053 1 hsz53 Ao42 t103.length co42 (ji11) q053 q53; have hr53 := Kd.C_drop (m := ((ji11) : Int).toNat) (c := co42) hC53 (by omega) hroom53; obtain ⟨A53, hA53⟩ : ∃ A1, A1 = (if co42 = ((ji11) : Int).toNat then Ao42 else (Ao42 : Option Addr).map (·.add (((ji11) : Int).toNat * 1))) := ⟨_, rfl⟩; obtain ⟨c53, hc53⟩ : ∃ c1, c1 = co42 - ((ji11) : Int).toNat := ⟨_, rfl⟩; have hy53 : y129.length = t103.length - ((ji11) : Int).toNat := (by rw [Ny129.out, List.length_drop] <;> omega); rw [show (t103).drop ((ji11) : Int).toNat = y129 from Ny129.out.symm] at hr53; replace hr53 : Kd.C (Kd.int .i64) _ A53 y129.length y129 := (by rw [hA53]; exact hr53); rw [← hy53, ← hA53, ← hc53] at hcut53; have HR132 := Aside0.mk hr53; have HC132 := Aside0.mk (show y129.length ≤ c53 from by rw [hy53, hc53]; exact Nat.sub_le_sub_right hroom53 _); clear hr53 hC53 hroom53 hi053 hsz53 hc53; have KY53 := Aside0.mk hy53; have KA53 := Aside0.mk hA53; clear hy53 hA53; have KL53 := Aside0.mk (show ((ji11) : Int).toNat ≤ t103.length from by omega); replace q53 := eq_true q53) | ((with_reducible refine gate_callee (f := 17) rfl ?_); refine goesL_ (some 42) rfl rfl Try.func17 (by kernel_rfl) rfl #[.slice Ao41 t102.length co41, .slice A53 y129.length c53] rfl (by (try simp only [List.map_toArray, List.map_cons, List.map_nil]); first | done | rfl | (simp only [List.length_drop, List.length_take]; rfl)) ?_; (with_reducible refine (impl_Project.calls k _ _ t102 _ _ y129 t133 _ ?side1 ?side2 ?side3 ?side4 A18.out).mono ?_); (case side1 => repeat (first | exact (Kd.R_reads' HO105.out).2.2 | (with_reducible refine Kd.C_alloc ?_ _) | (with_reducible refine Kd.C_drewN ?_ _) | (with_reducible refine Kd.C_drew ?_))); (case side2 => exact (Kd.R_reads' HO105.out).2.1); (case side3 => repeat (first | exact (by repeat (first | (with_reducible exact HR132.out) | (with_reducible refine Kd.C_alloc ?_ _) | (with_reducible refine Kd.C_drewN ?_ _) | (with_reducible refine Kd.C_drew ?_) | exact HR132.out)) | (with_reducible refine Kd.C_alloc ?_ _) | (with_reducible refine Kd.C_drewN ?_ _) | (with_reducible refine Kd.C_drew ?_))); (case side4 => exact HC132.out); rintro e w54 ⟨v134, rfl, ho0, hb⟩; refine ⟨_, rfl, ?_⟩; have n0_ := Aside0.mk (Kd.R_elder' (by (with_reducible repeat (first | apply Kd.R_alloc | apply Kd.R_drewN | apply Kd.R_drew)); exact HO105.out) (Kd.R_base ho0) hb); have n1_ := Aside0.mk (Kd.R_below (by (with_reducible repeat (first | apply Kd.R_alloc | apply Kd.R_drewN | apply Kd.R_drew)); exact HO107.out) hb); have n2_ := Aside0.mk (Kd.R_elder' (by (with_reducible repeat (first | apply Kd.R_alloc | apply Kd.R_drewN | apply Kd.R_drew)); exact HO110.out) (Kd.R_base ho0) hb); have n3_ := Aside0.mk (Kd.R_elder' (by (with_reducible repeat (first | apply Kd.R_alloc | apply Kd.R_drewN | apply Kd.R_drew)); exact HO113.out) (Kd.R_base ho0) hb); have n4_ := Aside0.mk (Kd.R_elder' (by (with_reducible repeat (first | apply Kd.R_alloc | apply Kd.R_drewN | apply Kd.R_drew)); exact HO125.out) (Kd.R_base ho0) hb); have n5_ := Aside0.mk (Kd.R_elder' (by (with_reducible repeat (first | apply Kd.R_alloc | apply Kd.R_drewN | apply Kd.R_drew)); exact HO128.out) (Kd.R_base ho0) hb); have n6_ := Aside0.mk (Kd.R_lower (Kd.R_new' (Kd.R_new' (Kd.R_new' (Kd.R_new' (Kd.R_new' ho0 (Kd.R_lt (by (with_reducible repeat (first | apply Kd.R_alloc | apply Kd.R_drewN | apply Kd.R_drew)); exact HO105.out))) (Kd.R_lt (by (with_reducible repeat (first | apply Kd.R_alloc | apply Kd.R_drewN | apply Kd.R_drew)); exact HO110.out))) (Kd.R_lt (by (with_reducible repeat (first | apply Kd.R_alloc | apply Kd.R_drewN | apply Kd.R_drew)); exact HO113.out))) (Kd.R_lt (by (with_reducible repeat (first | apply Kd.R_alloc | apply Kd.R_drewN | apply Kd.R_drew)); exact HO125.out))) (Kd.R_lt (by (with_reducible repeat (first | apply Kd.R_alloc | apply Kd.R_drewN | apply Kd.R_drew)); exact HO128.out))) (below_size (by repeat (first | (with_reducible first | exact HB.out | apply below_alloc | apply pw_below_drewN | apply below_drew1) | exact HB.out)))); have n7_ := Aside0.mk (Kd.C_below (by repeat (first | (with_reducible exact HR122.out) | (with_reducible refine Kd.C_alloc ?_ _) | (with_reducible refine Kd.C_drewN ?_ _) | (with_reducible refine Kd.C_drew ?_) | exact HR122.out)) hb); have n8_ := Aside0.mk (Kd.C_below (by repeat (first | (with_reducible exact HR132.out) | (with_reducible refine Kd.C_alloc ?_ _) | (with_reducible refine Kd.C_drewN ?_ _) | (with_reducible refine Kd.C_drew ?_) | exact HR132.out)) hb); have n9_ := Aside0.mk (below_step (by repeat (first | (with_reducible first | exact HB.out | apply below_alloc | apply pw_below_drewN | apply below_drew1) | exact HB.out)) hb); clear HO105; clear HO107; clear HO110; clear HO113; clear HO125; clear HO128; clear HR122; clear HR132; clear HB; have HO105 := n0_; have HO107 := n1_; have HO110 := n2_; have HO113 := n3_; have HO125 := n4_; have HO128 := n5_; have HO135 := n6_; have HR122 := n7_; have HR132 := n8_; have HB := n9_; clear n0_ n1_ n2_ n3_ n4_ n5_ n6_ n7_ n8_ n9_; (try clear hb); (try clear hb2); (try clear hk); (try clear hi); (try clear ho0); obtain ⟨Ao56, co56, eo56⟩ := Kd.R_slice HO135.out; subst eo56) | ((with_reducible refine gate_builtin (b := .append) (xs := #[.tmp 37, .tmp 42]) rfl ?_); (try (refine gate_guard (by rfl) ?_; dsimp only)); at_builtin; refine Kd.R_append_rows k37 (w0 := w) w.heap.size rfl (.tmp 37) (.tmp 42) 24 37 (.agg #[(.int .i64 0), (.int .i64 0), (.string ⟨#[]⟩)]) 32 rfl Try.underlying24 info37 rfl (by decide) (by omega) v127 y126 t133 _ _ _ (fun k_ => some k_ ≠ (.slice Ao41 t102.length co41 : Value).ownBlock ∧ some k_ ≠ (.slice Ao45 t108.length co45 : Value).ownBlock ∧ some k_ ≠ (.slice Ao46 t111.length co46 : Value).ownBlock ∧ some k_ ≠ (.slice Ao52 t123.length co52 : Value).ownBlock ∧ some k_ ≠ (.slice Ao56 t133.length co56 : Value).ownBlock) (fun _ => False) rfl rfl ?aO ?aR (fun _ _ h => h) (fun _ h => h.elim) ?aF ?aB ?aS ?aL ?_; (case aR => repeat (first | exact (Kd.R_reads' HO135.out).2.2 | (with_reducible refine Kd.C_alloc ?_ _) | (with_reducible refine Kd.C_drewN ?_ _) | (with_reducible refine Kd.C_drew ?_))); (case aB => exact (by repeat (first | (with_reducible first | exact HB.out | apply below_alloc | apply pw_below_drewN | apply below_drew1) | exact HB.out))); (case aF => exact (fun k_ hk => ⟨Kd.fresh' (Kd.R_lt (by (with_reducible repeat (first | apply Kd.R_alloc | apply Kd.R_drewN | apply Kd.R_drew)); exact HO105.out)) k_ hk, Kd.fresh' (Kd.R_lt (by (with_reducible repeat (first | apply Kd.R_alloc | apply Kd.R_drewN | apply Kd.R_drew)); exact HO110.out)) k_ hk, Kd.fresh' (Kd.R_lt (by (with_reducible repeat (first | apply Kd.R_alloc | apply Kd.R_drewN | apply Kd.R_drew)); exact HO113.out)) k_ hk, Kd.fresh' (Kd.R_lt (by (with_reducible repeat (first | apply Kd.R_alloc | apply Kd.R_drewN | apply Kd.R_drew)); exact HO125.out)) k_ hk, Kd.fresh' (Kd.R_lt (by (with_reducible repeat (first | apply Kd.R_alloc | apply Kd.R_drewN | apply Kd.R_drew)); exact HO135.out)) k_ hk⟩)); (case aO => exact (by (with_reducible repeat (first | apply Kd.R_alloc | apply Kd.R_drewN | apply Kd.R_drew)); exact Kd.R_mono HO128.out (fun _ hk => ⟨hk.1.1, ⟨hk.1.2.1, ⟨hk.1.2.2.1, ⟨hk.1.2.2.2, hk.2⟩⟩⟩⟩))); (case aS => exact (below_size (by repeat (first | (with_reducible first | exact HB.out | apply below_alloc | apply pw_below_drewN | apply below_drew1) | exact HB.out)))); (case aL => have := LMc19.out; omega); intro v137 w55 ho hb hg hat; rw [← Ny136.out] at ho; have n0_ := Aside0.mk (Kd.R_after (ok := (fun k_ => some k_ ≠ (.slice Ao45 t108.length co45 : Value).ownBlock ∧ some k_ ≠ (.slice Ao46 t111.length co46 : Value).ownBlock ∧ some k_ ≠ (.slice Ao52 t123.length co52 : Value).ownBlock ∧ some k_ ≠ (.slice Ao56 t133.length co56 : Value).ownBlock)) (by (with_reducible repeat (first | apply Kd.R_alloc | apply Kd.R_drewN | apply Kd.R_drew)); exact Kd.R_mono HO105.out (fun _ hk => ⟨⟨hk.1.1.1, ⟨hk.1.1.2.1, ⟨hk.1.1.2.2, hk.2⟩⟩⟩, hk.1.2⟩)) hg hat); have n1_ := Aside0.mk (Kd.R_over' (by (with_reducible repeat (first | apply Kd.R_alloc | apply Kd.R_drewN | apply Kd.R_drew)); exact HO107.out) (Kd.R_typed (by (with_reducible repeat (first | apply Kd.R_alloc | apply Kd.R_drewN | apply Kd.R_drew)); exact HO128.out)) (by decide) hg); have n2_ := Aside0.mk (Kd.R_after (ok := (fun k_ => some k_ ≠ (.slice Ao41 t102.length co41 : Value).ownBlock ∧ some k_ ≠ (.slice Ao46 t111.length co46 : Value).ownBlock ∧ some k_ ≠ (.slice Ao52 t123.length co52 : Value).ownBlock ∧ some k_ ≠ (.slice Ao56 t133.length co56 : Value).ownBlock)) (by (with_reducible repeat (first | apply Kd.R_alloc | apply Kd.R_drewN | apply Kd.R_drew)); exact Kd.R_mono HO110.out (fun _ hk => ⟨⟨hk.1.1.1, ⟨hk.1.1.2.1, ⟨hk.1.1.2.2, hk.2⟩⟩⟩, hk.1.2⟩)) hg hat); have n3_ := Aside0.mk (Kd.R_after (ok := (fun k_ => some k_ ≠ (.slice Ao41 t102.length co41 : Value).ownBlock ∧ some k_ ≠ (.slice Ao45 t108.length co45 : Value).ownBlock ∧ some k_ ≠ (.slice Ao52 t123.length co52 : Value).ownBlock ∧ some k_ ≠ (.slice Ao56 t133.length co56 : Value).ownBlock)) (by (with_reducible repeat (first | apply Kd.R_alloc | apply Kd.R_drewN | apply Kd.R_drew)); exact Kd.R_mono HO113.out (fun _ hk => ⟨⟨hk.1.1.1, ⟨hk.1.1.2.1, ⟨hk.1.1.2.2, hk.2⟩⟩⟩, hk.1.2⟩)) hg hat); have n4_ := Aside0.mk (Kd.R_after (ok := (fun k_ => some k_ ≠ (.slice Ao41 t102.length co41 : Value).ownBlock ∧ some k_ ≠ (.slice Ao45 t108.length co45 : Value).ownBlock ∧ some k_ ≠ (.slice Ao46 t111.length co46 : Value).ownBlock ∧ some k_ ≠ (.slice Ao56 t133.length co56 : Value).ownBlock)) (by (with_reducible repeat (first | apply Kd.R_alloc | apply Kd.R_drewN | apply Kd.R_drew)); exact Kd.R_mono HO125.out (fun _ hk => ⟨⟨hk.1.1.1, ⟨hk.1.1.2.1, ⟨hk.1.1.2.2, hk.2⟩⟩⟩, hk.1.2⟩)) hg hat); have n5_ := Aside0.mk (Kd.R_after (ok := (fun k_ => some k_ ≠ (.slice Ao41 t102.length co41 : Value).ownBlock ∧ some k_ ≠ (.slice Ao45 t108.length co45 : Value).ownBlock ∧ some k_ ≠ (.slice Ao46 t111.length co46 : Value).ownBlock ∧ some k_ ≠ (.slice Ao52 t123.length co52 : Value).ownBlock)) (by (with_reducible repeat (first | apply Kd.R_alloc | apply Kd.R_drewN | apply Kd.R_drew)); exact Kd.R_mono HO135.out (fun _ hk => ⟨⟨hk.1.1.1.1.2, ⟨hk.1.1.1.2, ⟨hk.1.1.2, hk.1.2⟩⟩⟩, hk.2⟩)) hg hat); have n6_ := Aside0.mk (hb); have n7_ := Aside0.mk ((show Kd.C (Kd.int .i64) w55 Ao42 y119.length y119 from by rw [Ny119.out]; exact Kd.C_take (m := ((ji11) : Int).toNat) ((Kd.R_reads' (Kd.R_over' (by (with_reducible repeat (first | apply Kd.R_alloc | apply Kd.R_drewN | apply Kd.R_drew)); exact HO107.out) (Kd.R_typed (by (with_reducible repeat (first | apply Kd.R_alloc | apply Kd.R_drewN | apply Kd.R_drew)); exact HO128.out)) (by decide) hg)).2.2) KL49.out)); have n8_ := Aside0.mk ((show Kd.C (Kd.int .i64) w55 A53 y129.length y129 from by rw [Ny129.out, KA53.out]; exact Kd.C_drop (m := ((ji11) : Int).toNat) (c := co42) ((Kd.R_reads' (Kd.R_over' (by (with_reducible repeat (first | apply Kd.R_alloc | apply Kd.R_drewN | apply Kd.R_drew)); exact HO107.out) (Kd.R_typed (by (with_reducible repeat (first | apply Kd.R_alloc | apply Kd.R_drewN | apply Kd.R_drew)); exact HO128.out)) (by decide) hg)).2.2) KL53.out ((Kd.R_reads' (Kd.R_over' (by (with_reducible repeat (first | apply Kd.R_alloc | apply Kd.R_drewN | apply Kd.R_drew)); exact HO107.out) (Kd.R_typed (by (with_reducible repeat (first | apply Kd.R_alloc | apply Kd.R_drewN | apply Kd.R_drew)); exact HO128.out)) (by decide) hg)).2.1))); have n9_ := Aside0.mk (ho); clear HO105; clear HO107; clear HO110; clear HO113; clear HO125; clear HO135; clear HB; clear HR122; clear HR132; clear HO128; have HO105 := n0_; have HO107 := n1_; have HO110 := n2_; have HO113 := n3_; have HO125 := n4_; have HO135 := n5_; have HB := n6_; have HR122 := n7_; have HR132 := n8_; have HO138 := n9_; clear n0_ n1_ n2_ n3_ n4_ n5_ n6_ n7_ n8_ n9_; clear ho hb hg hat; obtain ⟨Ao57, co57, eo57⟩ := Kd.R_slice HO138.out; subst eo57) | ((with_reducible refine gate_callee (f := 15) rfl ?_); refine goesL_ (some 45) rfl rfl Try.func15 (by kernel_rfl) rfl #[.slice Ao57 y136.length co57, .slice Ao45 t108.length co45] rfl (by (try simp only [List.map_toArray, List.map_cons, List.map_nil]); first | done | rfl | (simp only [List.length_drop, List.length_take]; rfl)) ?_; (with_reducible refine (laws_sameTuple.calls k _ _ y136 _ _ t108 false _ ?side1 ?side2 ?side3 ?side4 A20.out).mono ?_); (case side1 => repeat (first | exact (Kd.R_reads' HO138.out).2.2 | (with_reducible refine Kd.C_alloc ?_ _) | (with_reducible refine Kd.C_drewN ?_ _) | (with_reducible refine Kd.C_drew ?_))); (case side2 => exact (Kd.R_reads' HO138.out).2.1); (case side3 => repeat (first | exact (Kd.R_reads' HO110.out).2.2 | (with_reducible refine Kd.C_alloc ?_ _) | (with_reducible refine Kd.C_drewN ?_ _) | (with_reducible refine Kd.C_drew ?_))); (case side4 => exact (Kd.R_reads' HO110.out).2.1); rintro e w' ⟨rfl, ⟨nd, rfl⟩⟩; refine ⟨_, rfl, ?_⟩))
                  go_ret
                  exact ⟨by first | rfl | (simp [errW_none, errW_some] <;> rfl) | (simp only [← hji11]; first | rfl | (simp [errW_none, errW_some] <;> rfl)) | (simp [*, errW_none, errW_some] <;> rfl), by repeat (first | (with_reducible first | exact HB.out | apply below_alloc | apply pw_below_drewN | apply below_drew1) | exact HB.out)⟩
              · rw [if_neg c19] at H
                exact absurd H (by simp)
            · rw [if_neg c15] at H
              exact absurd H (by simp)
          · rw [if_neg c13] at H
            exact absurd H (by simp)
        · rw [if_neg c12] at H
          exact absurd H (by simp)
    · replace c8 := Bool.eq_false_iff.mpr c8
      subst c8
      have H1 : (some false) = some r := by rw [if_neg (show ¬ (false = true) by decide)] at H; exact H
      clear H
      have H := H1
      clear H1
      obtain rfl := Option.some.inj H
      go_enter Try.func4, Try.ntmps4
      go_wp2_with (first | ((with_reducible refine gate_callee (f := 9) rfl ?_); refine goesL_ (some 9) rfl rfl Try.func9 (by kernel_rfl) rfl #[.slice A0 l0.length c0] rfl (by (try simp only [List.map_toArray, List.map_cons, List.map_nil]); first | done | rfl | (simp only [List.length_drop, List.length_take]; rfl)) ?_; (with_reducible refine (laws_big.calls _ _ l0 false _ ?side1 ?side2 A2.out).mono ?_); (case side1 => repeat (first | exact HR0.out | (with_reducible refine Kd.C_alloc ?_ _) | (with_reducible refine Kd.C_drewN ?_ _) | (with_reducible refine Kd.C_drew ?_))); (case side2 => exact HC0.out); rintro e w' ⟨rfl, ⟨nd, rfl⟩⟩; refine ⟨_, rfl, ?_⟩) | ((with_reducible refine gate_callee (f := 16) rfl ?_); refine goesL_ (some 12) rfl rfl Try.func16 (by kernel_rfl) rfl #[.slice A0 l0.length c0] rfl (by (try simp only [List.map_toArray, List.map_cons, List.map_nil]); first | done | rfl | (simp only [List.length_drop, List.length_take]; rfl)) ?_; (with_reducible refine (spec_DrawProject.calls k _ _ l0 t102 t103 _ ?side1 ?side2 A4.out).mono ?_); (case side1 => repeat (first | exact HR0.out | (with_reducible refine Kd.C_alloc ?_ _) | (with_reducible refine Kd.C_drewN ?_ _) | (with_reducible refine Kd.C_drew ?_))); (case side2 => exact HC0.out); rintro e w58 ⟨v104, v106, rfl, ho0, ho1, hb⟩; refine ⟨_, rfl, ?_⟩; have n0_ := Aside0.mk (Kd.R_lower ho0 (below_size (by repeat (first | (with_reducible first | exact HB.out | apply below_alloc | apply pw_below_drewN | apply below_drew1) | exact HB.out)))); have n1_ := Aside0.mk (Kd.R_lower ho1 (below_size (by repeat (first | (with_reducible first | exact HB.out | apply below_alloc | apply pw_below_drewN | apply below_drew1) | exact HB.out)))); have n2_ := Aside0.mk (below_step (by repeat (first | (with_reducible first | exact HB.out | apply below_alloc | apply pw_below_drewN | apply below_drew1) | exact HB.out)) hb); clear HB; have HO105 := n0_; have HO107 := n1_; have HB := n2_; clear n0_ n1_ n2_; (try clear hb); (try clear hb2); (try clear hk); (try clear hi); (try clear ho0); (try clear ho1); obtain ⟨Ao59, co59, eo59⟩ := Kd.R_slice HO105.out; subst eo59; obtain ⟨Ao60, co60, eo60⟩ := Kd.R_slice HO107.out; subst eo60) | ((with_reducible refine gate_callee (f := 17) rfl ?_); refine goesL_ (some 17) rfl rfl Try.func17 (by kernel_rfl) rfl #[.slice Ao59 t102.length co59, .slice Ao60 t103.length co60] rfl (by (try simp only [List.map_toArray, List.map_cons, List.map_nil]); first | done | rfl | (simp only [List.length_drop, List.length_take]; rfl)) ?_; (with_reducible refine (impl_Project.calls k _ _ t102 _ _ t103 t108 _ ?side1 ?side2 ?side3 ?side4 A5.out).mono ?_); (case side1 => repeat (first | exact (Kd.R_reads' HO105.out).2.2 | (with_reducible refine Kd.C_alloc ?_ _) | (with_reducible refine Kd.C_drewN ?_ _) | (with_reducible refine Kd.C_drew ?_))); (case side2 => exact (Kd.R_reads' HO105.out).2.1); (case side3 => repeat (first | exact (Kd.R_reads' HO107.out).2.2 | (with_reducible refine Kd.C_alloc ?_ _) | (with_reducible refine Kd.C_drewN ?_ _) | (with_reducible refine Kd.C_drew ?_))); (case side4 => exact (Kd.R_reads' HO107.out).2.1); rintro e w61 ⟨v109, rfl, ho0, hb⟩; refine ⟨_, rfl, ?_⟩; have n0_ := Aside0.mk (Kd.R_elder' (by (with_reducible repeat (first | apply Kd.R_alloc | apply Kd.R_drewN | apply Kd.R_drew)); exact HO105.out) (Kd.R_base ho0) hb); have n1_ := Aside0.mk (Kd.R_below (by (with_reducible repeat (first | apply Kd.R_alloc | apply Kd.R_drewN | apply Kd.R_drew)); exact HO107.out) hb); have n2_ := Aside0.mk (Kd.R_lower (Kd.R_new' ho0 (Kd.R_lt (by (with_reducible repeat (first | apply Kd.R_alloc | apply Kd.R_drewN | apply Kd.R_drew)); exact HO105.out))) (below_size (by repeat (first | (with_reducible first | exact HB.out | apply below_alloc | apply pw_below_drewN | apply below_drew1) | exact HB.out)))); have n3_ := Aside0.mk (below_step (by repeat (first | (with_reducible first | exact HB.out | apply below_alloc | apply pw_below_drewN | apply below_drew1) | exact HB.out)) hb); clear HO105; clear HO107; clear HB; have HO105 := n0_; have HO107 := n1_; have HO110 := n2_; have HB := n3_; clear n0_ n1_ n2_ n3_; (try clear hb); (try clear hb2); (try clear hk); (try clear hi); (try clear ho0)) | ((with_reducible refine gate_callee (f := 18) rfl ?_); refine goesL_ (some 21) rfl rfl Try.func18 (by kernel_rfl) rfl #[.slice Ao59 t102.length co59, .slice Ao60 t103.length co60] rfl (by (try simp only [List.map_toArray, List.map_cons, List.map_nil]); first | done | rfl | (simp only [List.length_drop, List.length_take]; rfl)) ?_; (with_reducible refine (spec_Project.calls k _ _ t102 _ _ t103 t111 _ ?side1 ?side2 ?side3 ?side4 A6.out).mono ?_); (case side1 => repeat (first | exact (Kd.R_reads' HO105.out).2.2 | (with_reducible refine Kd.C_alloc ?_ _) | (with_reducible refine Kd.C_drewN ?_ _) | (with_reducible refine Kd.C_drew ?_))); (case side2 => exact (Kd.R_reads' HO105.out).2.1); (case side3 => repeat (first | exact (Kd.R_reads' HO107.out).2.2 | (with_reducible refine Kd.C_alloc ?_ _) | (with_reducible refine Kd.C_drewN ?_ _) | (with_reducible refine Kd.C_drew ?_))); (case side4 => exact (Kd.R_reads' HO107.out).2.1); rintro e w62 ⟨v112, rfl, ho0, hb⟩; refine ⟨_, rfl, ?_⟩; have n0_ := Aside0.mk (Kd.R_elder' (by (with_reducible repeat (first | apply Kd.R_alloc | apply Kd.R_drewN | apply Kd.R_drew)); exact HO105.out) (Kd.R_base ho0) hb); have n1_ := Aside0.mk (Kd.R_below (by (with_reducible repeat (first | apply Kd.R_alloc | apply Kd.R_drewN | apply Kd.R_drew)); exact HO107.out) hb); have n2_ := Aside0.mk (Kd.R_elder' (by (with_reducible repeat (first | apply Kd.R_alloc | apply Kd.R_drewN | apply Kd.R_drew)); exact HO110.out) (Kd.R_base ho0) hb); have n3_ := Aside0.mk (Kd.R_lower (Kd.R_new' (Kd.R_new' ho0 (Kd.R_lt (by (with_reducible repeat (first | apply Kd.R_alloc | apply Kd.R_drewN | apply Kd.R_drew)); exact HO105.out))) (Kd.R_lt (by (with_reducible repeat (first | apply Kd.R_alloc | apply Kd.R_drewN | apply Kd.R_drew)); exact HO110.out))) (below_size (by repeat (first | (with_reducible first | exact HB.out | apply below_alloc | apply pw_below_drewN | apply below_drew1) | exact HB.out)))); have n4_ := Aside0.mk (below_step (by repeat (first | (with_reducible first | exact HB.out | apply below_alloc | apply pw_below_drewN | apply below_drew1) | exact HB.out)) hb); clear HO105; clear HO107; clear HO110; clear HB; have HO105 := n0_; have HO107 := n1_; have HO110 := n2_; have HO113 := n3_; have HB := n4_; clear n0_ n1_ n2_ n3_ n4_; (try clear hb); (try clear hb2); (try clear hk); (try clear hi); (try clear ho0); obtain ⟨Ao63, co63, eo63⟩ := Kd.R_slice HO110.out; subst eo63; obtain ⟨Ao64, co64, eo64⟩ := Kd.R_slice HO113.out; subst eo64) | ((with_reducible refine gate_callee (f := 15) rfl ?_); refine goesL_ (some 22) rfl rfl Try.func15 (by kernel_rfl) rfl #[.slice Ao63 t108.length co63, .slice Ao64 t111.length co64] rfl (by (try simp only [List.map_toArray, List.map_cons, List.map_nil]); first | done | rfl | (simp only [List.length_drop, List.length_take]; rfl)) ?_; (with_reducible refine (laws_sameTuple.calls k _ _ t108 _ _ t111 false _ ?side1 ?side2 ?side3 ?side4 A7.out).mono ?_); (case side1 => repeat (first | exact (Kd.R_reads' HO110.out).2.2 | (with_reducible refine Kd.C_alloc ?_ _) | (with_reducible refine Kd.C_drewN ?_ _) | (with_reducible refine Kd.C_drew ?_))); (case side2 => exact (Kd.R_reads' HO110.out).2.1); (case side3 => repeat (first | exact (Kd.R_reads' HO113.out).2.2 | (with_reducible refine Kd.C_alloc ?_ _) | (with_reducible refine Kd.C_drewN ?_ _) | (with_reducible refine Kd.C_drew ?_))); (case side4 => exact (Kd.R_reads' HO113.out).2.1); rintro e w' ⟨rfl, ⟨nd, rfl⟩⟩; refine ⟨_, rfl, ?_⟩))
      go_ret
      exact ⟨by first | rfl | (simp [errW_none, errW_some] <;> rfl) | (simp [*, errW_none, errW_some] <;> rfl), by repeat (first | (with_reducible first | exact HB.out | apply below_alloc | apply pw_below_drewN | apply below_drew1) | exact HB.out)⟩
end Go.Proofs.Ytcedikpkbgofhaa.P
namespace Go.Proofs.YtcedikpkbgofhaaZ
open Go.RowKit Go.Proofs.YtcedikpkbgofhaaW.PrintWords Go.Proofs.YtcedikpkbgofhaaW.PrintLast
def Opens {α : Type} (P : Program) (t : TypeId) (d : Kd α) (wf : α → Prop) : Prop :=
  ∀ (H : Type) (enc : TypeId × Value → H) (w : World) (fuel : Nat) (cs : List Value) (x : DataW H × List MemPlace),
    DataW.trod enc P w 0 (fun _ => true) true fuel t cs = some x → ∃ a, d.K w a cs ∧ wf a
theorem Opens.int {P : Program} {t : TypeId} {k : IntKind} (hu : P.underlying t = some (.int k)) : Opens P t (Kd.int k) (fun n => (Lit.int k n).wf = true) := by
  intro H enc w fuel cs x h
  obtain ⟨n, rfl, _, hw⟩ := DataW.trod_int hu h
  exact ⟨n, rfl, hw⟩
theorem Opens.bool {P : Program} {t : TypeId} (hu : P.underlying t = some .bool) : Opens P t Kd.bool (fun _ => True) := by
  intro H enc w fuel cs x h
  obtain ⟨n, rfl, _⟩ := DataW.trod_bool hu h
  exact ⟨n, rfl, trivial⟩
theorem Opens.string {P : Program} {t : TypeId} (hu : P.underlying t = some .string) : Opens P t Kd.string (fun s => s.size ≤ 9223372036854775807) := by
  intro H enc w fuel cs x h
  obtain ⟨n, rfl, _, hw⟩ := DataW.trod_string hu h
  exact ⟨n, rfl, by simpa [maxLen] using hw⟩
theorem exists_list {α : Type} (Q : Nat → α → Prop) : ∀ n, (∀ i, i < n → ∃ y, Q i y) → ∃ xs : List α, xs.length = n ∧ ∀ j p, xs[j]? = some p → Q j p
  | 0, _ => ⟨[], rfl, fun j p h => by simp at h⟩
  | n + 1, h => by
    obtain ⟨xs, hl, hx⟩ := exists_list Q n (fun i hi => h i (by omega))
    obtain ⟨y, hy⟩ := h n (by omega)
    refine ⟨xs ++ [y], by simp [hl], fun j p hj => ?_⟩
    by_cases hjn : j < n
    · rw [List.getElem?_append_left (by omega)] at hj
      exact hx j p hj
    · have hlt := (List.getElem?_eq_some_iff.1 hj).1
      rw [List.length_append, List.length_singleton, hl] at hlt
      obtain rfl : j = n := by omega
      rw [List.getElem?_append_right (by omega), hl, Nat.sub_self] at hj
      obtain rfl : y = p := by simpa using hj
      exact hy
theorem Opens.slice {α : Type} {P : Program} {t e : TypeId} {d : Kd α} {wf : α → Prop} (e' : Nat) (hu : P.underlying t = some (.slice e)) (hc : P.cellsOf e = d.sz) (he : Opens P e d wf) :
    Opens P t (Kd.slice e' d) (fun xs => xs.length ≤ 9223372036854775807 ∧ ∀ a ∈ xs, wf a) := by
  intro H enc w fuel cs x h
  rcases DataW.trod_slice hu h with ⟨rfl, _⟩ | ⟨a, len, cap, elems, rest, n, _, rfl, _, hb, hl, hm, hlen, hel, _, _⟩
  · exact ⟨[], ⟨none, 0, rfl, Nat.le_refl _, Kd.C_nil _ _⟩, by simp⟩
  · have each : ∀ i, i < len → ∃ y, wf y ∧ ∃ c, c.length = d.sz ∧ d.K w y c ∧ ∀ j u, c[j]? = some u → w.cell? (a.add (i * d.sz + j)) = some u := by
      intro i hi
      have h1 := hel i hi
      rw [List.getElem?_eq_getElem (by omega), hc, Option.bind_eq_some_iff] at h1
      obtain ⟨c, hcs, hy⟩ := h1
      obtain ⟨y, hK, hw⟩ := he _ _ _ _ _ _ hy
      refine ⟨y, hw, c, d.K_len hK, hK, fun j u hj => ?_⟩
      have h2 := World.cells?_some hcs
      rw [← Addr.add_add]
      have hjl := (List.getElem?_eq_some_iff.1 hj).1
      rw [← hj]
      exact (h2.2.2 j (by rw [← h2.2.1]; exact hjl))
    obtain ⟨xs, hxl, hxs⟩ := exists_list _ len each
    simp only [maxLen] at hm
    refine ⟨xs, ⟨some a, cap, by rw [hxl], by omega, rfl, by omega, fun _ => ⟨a, rfl, fun j p hj => ?_⟩⟩, by omega, fun y hy => ?_⟩
    · obtain ⟨_, c, hcl, hK, hcell⟩ := hxs j p hj
      exact ⟨c, hcl, hK, hcell⟩
    · obtain ⟨j, hj⟩ := List.getElem?_of_mem hy
      exact (hxs j y hj).1
def OpensF {α : Type} (P : Program) (fs : Array Field) (o : Nat) (d : Kd α) (wf : α → Prop) : Prop :=
  ∀ (H : Type) (enc : TypeId × Value → H) (w : World) (fuel : Nat) (cs : List Value) (xs : List (DataW H × List MemPlace)), cs.length = o + d.sz → xs.length = fs.size →
    (∀ (j : Nat) (f : Field), fs[j]? = some f → DataW.trod enc P w 0 (fun _ => true) true fuel f.type ((cs.drop f.offset).take (P.cellsOf f.type)) = xs[j]?) → ∃ a, d.K w a (cs.drop o) ∧ wf a
theorem Opens.struct {α β : Type} {P : Program} {t : TypeId} {fs : Array Field} {d : Kd α} {wf : α → Prop} (f : β → α) (g : α → β) (hfg : ∀ a, f (g a) = a) (hu : P.underlying t = some (.struct fs)) (hc : P.cellsOf t = d.sz) (h : OpensF P fs 0 d wf) :
    Opens P t (Kd.iso d f) (fun b => wf (f b)) := by
  intro H enc w fuel cs x hx
  obtain ⟨xs, n, _, _, hl, hxl, hall⟩ := DataW.trod_struct hu hx
  obtain ⟨a, hK, hw⟩ := h H enc w n cs xs (by omega) hxl hall
  refine ⟨g a, ?_, ?_⟩
  · show d.K w (f (g a)) cs
    rw [hfg]; exact hK
  · show wf (f (g a))
    rw [hfg]; exact hw
theorem Opens.param {α : Type} {P : Program} {t : TypeId} {d : Kd α} {wf : α → Prop} (h : Opens P t d wf) {H : Type} {enc : TypeId × Value → H} {w : World} {v : Value} {D : DataW H} {ps : List MemPlace} (hv : DataW.Trod enc P w 0 (fun _ => true) true t v D ps) :
    ∃ a, d.K w a v.cells.toList ∧ wf a := by
  obtain ⟨fuel, hf⟩ := hv
  exact h _ _ _ _ _ _ hf
end Go.Proofs.YtcedikpkbgofhaaZ
namespace Go.Proofs.Ytcedikpkbgofhaa.P
open Go.RowKit Go.Proofs.YtcedikpkbgofhaaW.PrintWords Go.Proofs.YtcedikpkbgofhaaW.PrintLast Go.Proofs.YtcedikpkbgofhaaZ
def PureFnProjects : Prop := ∀ (x0 : List Int), (x0.length ≤ 9223372036854775807 ∧ ∀ y ∈ x0, (Lit.int .u8 y).wf = true) → ∃ k, laws_FnProjects.f k x0 = some true
end Go.Proofs.Ytcedikpkbgofhaa.P
namespace Go.Proofs.YtcedikpkbgofhaaW.PrintWords
section
variable {α : Type}
theorem Ev.shift {g : Nat → Option α} {r : α} (h : Ev (fun k => g (k + 1)) r) : Ev g r := Ev.step (fun _ => rfl) h
theorem Ev.val {a r : α} (h : a = r) : Ev (fun _ => some a) r := by subst h; exact Ev.now _
theorem Ev.of_eq {o : Option α} {r : α} (h : o = some r) : Ev (fun _ => o) r := by subst h; exact Ev.now _
theorem Ev.pos {p : Prop} [Decidable p] {g f : Nat → Option α} {r : α} (h : p) (hg : Ev g r) : Ev (fun k => if p then g k else f k) r := by
  simp only [if_pos h]; exact hg
theorem Ev.neg {p : Prop} [Decidable p] {g f : Nat → Option α} {r : α} (h : ¬ p) (hf : Ev f r) : Ev (fun k => if p then g k else f k) r := by
  simp only [if_neg h]; exact hf
end
end Go.Proofs.YtcedikpkbgofhaaW.PrintWords
namespace Go.Proofs.YtcedikpkbgofhaaZ
open Go.RowKit Go.Proofs.YtcedikpkbgofhaaW.PrintWords
theorem back {n : Nat} {Q : Nat → Prop} (hn : Q n) (hs : ∀ i, i < n → Q (i + 1) → Q i) : ∀ i, i ≤ n → Q i := by
  intro i hi
  obtain ⟨d, rfl⟩ : ∃ d, n = i + d := ⟨n - i, by omega⟩
  clear hi
  induction d generalizing i with
  | zero => exact hn
  | succ d ih =>
    refine hs i (by omega) (ih (i + 1) ?_ ?_)
    · rw [show i + 1 + d = i + (d + 1) by omega]; exact hn
    · intro j hj; exact hs j (by omega)
theorem w64 {n : Int} (h1 : -9223372036854775808 ≤ n) (h2 : n < 9223372036854775808) : wrap64 n = n := by unfold wrap64; omega
theorem w32 {n : Int} (h1 : -2147483648 ≤ n) (h2 : n < 2147483648) : wrap32 n = n := by unfold wrap32; omega
theorem succ64 {i n : Nat} (h : i < n) (hn : n ≤ 9223372036854775807) : wrap64 ((i : Int) + 1) = ((i + 1 : Nat) : Int) := by
  rw [w64 (by omega) (by omega)]; simp
section
variable {τ σ : Type}
theorem getD_get {xs : List τ} {i : Nat} {x d : τ} (h : xs[i]? = some x) : xs.getD ((i : Int)).toNat d = x := by
  rw [Int.toNat_natCast, List.getD_eq_getElem?_getD, h]; rfl
end
theorem rd_get {xs : List Int} {i : Nat} {x : Int} (h : xs[i]? = some x) : rd xs i = x := getD_get h
end Go.Proofs.YtcedikpkbgofhaaZ
namespace Go.Proofs.Ytcedikpkbgofhaa.P
abbrev iV := S37
end Go.Proofs.Ytcedikpkbgofhaa.P
section
set_option linter.unusedSimpArgs false
set_option linter.unusedVariables false
namespace Go.Proofs.Ytcedikpkbgofhaa.P
open Go.RowKit Go.Proofs.YtcedikpkbgofhaaW.PrintWords Go.Proofs.YtcedikpkbgofhaaW.PrintLast Go.Proofs.YtcedikpkbgofhaaZ
def pick1 (l : List iV) (v : Int) : List iV := if 0 ≤ v ∧ v < l.length then [rd_T37 l v] else []
def projV (l : List iV) (p : List Int) : List iV := p.flatMap (pick1 l)
theorem pick1_le (l : List iV) (v : Int) : (pick1 l v).length ≤ 1 := by unfold pick1; split <;> simp
theorem projV_le (l : List iV) : ∀ p : List Int, (projV l p).length ≤ p.length
  | [] => by simp [projV]
  | v :: p => by
    have := projV_le l p
    have h := pick1_le l v
    simp only [projV, List.flatMap_cons, List.length_append, List.length_cons] at this ⊢
    omega
theorem projV_take {l : List iV} {p : List Int} {i : Nat} (h : i < p.length) : projV l (p.take (i + 1)) = projV l (p.take i) ++ pick1 l p[i] := by
  rw [← List.take_append_getElem h]
  simp only [projV, List.flatMap_append, List.flatMap_cons, List.flatMap_nil, List.append_nil]
theorem rdI_at {p : List Int} {i : Nat} (h : i < p.length) : rd p (i : Int) = p[i] := rd_get (List.getElem?_eq_getElem h)
theorem spec_Project_ev (l : List iV) (p : List Int) (hl : l.length ≤ 1048576) (hp : p.length ≤ 1048576) : Ev (fun k => spec_Project.f k l p) (projV l p) := by
  simp only [spec_Project.f]
  refine (back (n := p.length) (Q := fun i => Ev (fun k => spec_Project.l0 k l p (projV l (p.take i)) (i : Int)) (projV l p)) ?_ (fun i hi ih => ?_) 0 (Nat.zero_le _))
  · refine Ev.shift ?_
    simp only [spec_Project.l0, Int.lt_irrefl, if_false, List.take_length]
    exact Ev.now _
  · have h0 : (0 : Int) ≤ (i : Int) := by omega
    have h1 : (i : Int) < (p.length : Int) := by omega
    have h2 := projV_le l (p.take i)
    rw [List.length_take] at h2
    have h3 : (projV l (p.take i)).length < 4398046511104 := by omega
    rw [projV_take hi] at ih
    refine Ev.shift ?_
    have hw : wrap64 ((l.length : Int) - 1) = l.length - 1 := w64 (by omega) (by omega)
    simp only [spec_Project.l0, spec_l1In.f, h0, h1, if_true, rdI_at hi, hw]
    by_cases c1 : p[i] ≥ 0
    · by_cases c2 : p[i] ≤ (l.length : Int) - 1
      · have c3 : p[i] < (l.length : Int) := by omega
        have c4 : (0 : Int) ≤ p[i] := c1
        simp only [c1, c2, c3, c4, h3, if_true, decide_true, Option.bind_some, succ64 hi (by omega)]
        rw [show pick1 l p[i] = [rd_T37 l p[i]] from if_pos ⟨c4, c3⟩] at ih
        exact ih
      · rw [show pick1 l p[i] = [] from if_neg (by omega), List.append_nil] at ih
        simp only [c1, c2, if_true, decide_false, Bool.false_eq_true, if_false, Option.bind_some, succ64 hi (by omega)]
        exact ih
    · rw [show pick1 l p[i] = [] from if_neg (by omega), List.append_nil] at ih
      simp only [c1, Bool.false_eq_true, if_false, Option.bind_some, succ64 hi (by omega)]
      exact ih
theorem impl_Project_ev (l : List iV) (p : List Int) (hl : l.length ≤ 1048576) (hp : p.length ≤ 1048576) : Ev (fun k => impl_Project.f k l p) (projV l p) := by
  simp only [impl_Project.f]
  refine (back (n := p.length) (Q := fun i => Ev (fun k => impl_Project.l0 k l (projV l (p.take i)) p (p.length : Int) (i : Int)) (projV l p)) ?_ (fun i hi ih => ?_) 0 (Nat.zero_le _))
  · refine Ev.shift ?_
    simp only [impl_Project.l0, Int.lt_irrefl, if_false, List.take_length]
    exact Ev.now _
  · have h0 : (0 : Int) ≤ (i : Int) := by omega
    have h1 : (i : Int) < (p.length : Int) := by omega
    have h2 := projV_le l (p.take i)
    rw [List.length_take] at h2
    have h3 : (projV l (p.take i)).length < 4398046511104 := by omega
    rw [projV_take hi] at ih
    refine Ev.shift ?_
    have hw : wrap64 ((l.length : Int) - 1) = l.length - 1 := w64 (by omega) (by omega)
    simp only [impl_Project.l0, impl_from.f, h0, h1, if_true, rdI_at hi, hw]
    by_cases c1 : p[i] ≥ 0
    · by_cases c2 : p[i] ≤ (l.length : Int) - 1
      · have c3 : p[i] < (l.length : Int) := by omega
        have c4 : (0 : Int) ≤ p[i] := c1
        simp only [c1, c2, c3, c4, h3, if_true, decide_true, Option.bind_some, succ64 hi (by omega)]
        rw [show pick1 l p[i] = [rd_T37 l p[i]] from if_pos ⟨c4, c3⟩] at ih
        exact ih
      · rw [show pick1 l p[i] = [] from if_neg (by omega), List.append_nil] at ih
        simp only [c1, c2, if_true, decide_false, Bool.false_eq_true, if_false, Option.bind_some, succ64 hi (by omega)]
        exact ih
    · rw [show pick1 l p[i] = [] from if_neg (by omega), List.append_nil] at ih
      simp only [c1, Bool.false_eq_true, if_false, Option.bind_some, succ64 hi (by omega)]
      exact ih
end Go.Proofs.Ytcedikpkbgofhaa.P
end
namespace Go.Proofs.Ytcedikpkbgofhaa.P
open Go.RowKit Go.Proofs.YtcedikpkbgofhaaW.PrintWords Go.Proofs.YtcedikpkbgofhaaW.PrintLast Go.Proofs.YtcedikpkbgofhaaW.PrintMore
attribute [local go_sem] max2_int min2_int max_two min_two max_three min_three max_four min_four   -- for this text's walks alone
set_option linter.unusedVariables false
set_option linter.unusedSimpArgs false
end Go.Proofs.Ytcedikpkbgofhaa.P
namespace Go.Proofs.Ytcedikpkbgofhaa.P
open Go.RowKit Go.Proofs.YtcedikpkbgofhaaW.PrintWords Go.Proofs.YtcedikpkbgofhaaW.PrintLast Go.Proofs.YtcedikpkbgofhaaW.PrintMore
attribute [local go_sem] max2_int min2_int max_two min_two max_three min_three max_four min_four   -- for this text's walks alone
set_option linter.unusedVariables false
set_option linter.unusedSimpArgs false
end Go.Proofs.Ytcedikpkbgofhaa.P
namespace Go.Proofs.Ytcedikpkbgofhaa.P
open Go.RowKit Go.Proofs.YtcedikpkbgofhaaW.PrintWords Go.Proofs.YtcedikpkbgofhaaW.PrintLast Go.Proofs.YtcedikpkbgofhaaW.PrintMore
attribute [local go_sem] max2_int min2_int max_two min_two max_three min_three max_four min_four   -- for this text's walks alone
set_option linter.unusedVariables false
set_option linter.unusedSimpArgs false
end Go.Proofs.Ytcedikpkbgofhaa.P
section
set_option linter.unusedSimpArgs false
set_option linter.unusedVariables false
namespace Go.Proofs.Ytcedikpkbgofhaa.P
open Go.RowKit Go.Proofs.YtcedikpkbgofhaaW.PrintWords Go.Proofs.YtcedikpkbgofhaaW.PrintLast Go.Proofs.YtcedikpkbgofhaaZ
section
variable {α β : Type}
def Got (o : Option α) (P : α → Prop) : Prop := ∃ a, o = some a ∧ P a
theorem Got.bind {o : Option α} {f : α → Option β} {P : α → Prop} {Q : β → Prop} (h : Got o P) (hf : ∀ a, P a → Got (f a) Q) : Got (o.bind f) Q := by
  obtain ⟨a, rfl, hp⟩ := h
  exact hf a hp
theorem Got.now {a : α} {P : α → Prop} (h : P a) : Got (some a) P := ⟨a, rfl, h⟩
theorem Got.pos {p : Prop} [Decidable p] {a b : Option α} {P : α → Prop} (hp : p) (h : Got a P) : Got (if p then a else b) P := by rw [if_pos hp]; exact h
theorem Got.neg {p : Prop} [Decidable p] {a b : Option α} {P : α → Prop} (hp : ¬ p) (h : Got b P) : Got (if p then a else b) P := by rw [if_neg hp]; exact h
theorem Got.ite {p : Prop} [Decidable p] {a b : Option α} {P : α → Prop} (h1 : p → Got a P) (h2 : ¬ p → Got b P) : Got (if p then a else b) P := by
  by_cases h : p
  · exact Got.pos h (h1 h)
  · exact Got.neg h (h2 h)
theorem Got.mono {o : Option α} {P Q : α → Prop} (h : Got o P) (f : ∀ a, P a → Q a) : Got o Q := by obtain ⟨a, h1, h2⟩ := h; exact ⟨a, h1, f a h2⟩
def EvG (g : Nat → Option α) (P : α → Prop) : Prop := ∃ a, Ev g a ∧ P a
theorem EvG.of_got {o : Option α} {P : α → Prop} (h : Got o P) : EvG (fun _ => o) P := by obtain ⟨a, rfl, hp⟩ := h; exact ⟨a, Ev.now _, hp⟩
theorem EvG.now {a : α} {P : α → Prop} (h : P a) : EvG (fun _ => some a) P := ⟨a, Ev.now _, h⟩
theorem EvG.bind {g : Nat → Option α} {f : α → Nat → Option β} {P : α → Prop} {Q : β → Prop} (h : EvG g P) (hf : ∀ a, P a → EvG (f a) Q) : EvG (fun k => (g k).bind fun a => f a k) Q := by
  obtain ⟨a, h1, hp⟩ := h
  obtain ⟨b, h2, hq⟩ := hf a hp
  exact ⟨b, Ev.bind h1 h2, hq⟩
theorem EvG.shift {g : Nat → Option α} {P : α → Prop} (h : EvG (fun k => g (k + 1)) P) : EvG g P := by obtain ⟨a, h1, hp⟩ := h; exact ⟨a, Ev.shift h1, hp⟩
theorem EvG.pos {p : Prop} [Decidable p] {a b : Nat → Option α} {P : α → Prop} (hp : p) (h : EvG a P) : EvG (fun k => if p then a k else b k) P := by simp only [hp, if_true]; exact h
theorem EvG.neg {p : Prop} [Decidable p] {a b : Nat → Option α} {P : α → Prop} (hp : ¬ p) (h : EvG b P) : EvG (fun k => if p then a k else b k) P := by simp only [hp, if_false]; exact h
theorem EvG.ite {p : Prop} [Decidable p] {a b : Nat → Option α} {P : α → Prop} (h1 : p → EvG a P) (h2 : ¬ p → EvG b P) : EvG (fun k => if p then a k else b k) P := by
  by_cases h : p
  · exact EvG.pos h (h1 h)
  · exact EvG.neg h (h2 h)
theorem EvG.mono {g : Nat → Option α} {P Q : α → Prop} (h : EvG g P) (f : ∀ a, P a → Q a) : EvG g Q := by obtain ⟨a, h1, h2⟩ := h; exact ⟨a, h1, f a h2⟩
end
end Go.Proofs.Ytcedikpkbgofhaa.P
end
section
set_option linter.unusedSimpArgs false
set_option linter.unusedVariables false
namespace Go.Proofs.Ytcedikpkbgofhaa.P
open Go.RowKit Go.Proofs.YtcedikpkbgofhaaW.PrintWords Go.Proofs.YtcedikpkbgofhaaW.PrintLast Go.Proofs.YtcedikpkbgofhaaZ
def okC (b : List Int) (i : Int) : Prop := b.length ≤ 1048576 ∧ 0 ≤ i ∧ i ≤ (b.length : Int)
theorem and255_all (n : Int) : Go.bits .and .i64 n 255 = n % 256 := by
  have h255 : (BitVec.ofInt 64 255).toNat = 2 ^ 8 - 1 := by decide
  have key : (BitVec.ofInt 64 n &&& BitVec.ofInt 64 255).toNat = (n % ((2 ^ 64 : Nat) : Int)).toNat % 2 ^ 8 := by
    rw [BitVec.toNat_and, BitVec.toNat_ofInt, h255, Nat.and_two_pow_sub_one_eq_mod]
  show IntKind.i64.wrap ((BitVec.ofInt 64 n &&& BitVec.ofInt 64 255).toNat : Nat) = n % 256
  rw [key, IntKind.wrap_i64]
  omega
theorem l1Byte_got {b : List Int} {i : Int} (h : okC b i) (c : Int) : Got (spec_l1Byte.f b i c) (fun r => 0 ≤ r.1 ∧ r.1 ≤ 255 ∧ okC b r.2.1) := by
  obtain ⟨h0, h1, h2⟩ := h
  simp only [spec_l1Byte.f, and255_all]
  refine Got.ite (fun h3 => Got.pos h1 (Got.now ⟨?_, ?_, h0, ?_, ?_⟩)) (fun h3 => Got.now ⟨?_, ?_, h0, h1, h2⟩)
  · show 0 ≤ _ % (256 : Int); omega
  · show _ % (256 : Int) ≤ 255; omega
  · show 0 ≤ wrap64 (i + 1); rw [w64 (by omega) (by omega)]; omega
  · show wrap64 (i + 1) ≤ _; rw [w64 (by omega) (by omega)]; omega
  · show 0 ≤ _ % (256 : Int); omega
  · show _ % (256 : Int) ≤ 255; omega
theorem l1Below_got {b : List Int} {i : Int} (h : okC b i) (c n : Int) : Got (spec_l1Below.f b i c n) (fun r => 0 ≤ r.1 ∧ (0 < n → r.1 < n) ∧ (n ≤ 0 → r.1 = 0) ∧ okC b r.2.1) := by
  simp only [spec_l1Below.f]
  refine Got.ite (fun h1 => Got.now ⟨Int.le_refl 0, fun h2 => by omega, fun _ => rfl, h⟩) (fun h1 => ?_)
  have hn : ¬ n = 0 := by omega
  refine Got.ite (fun h2 => ?_) (fun h2 => ?_)
  · refine (l1Byte_got h c).bind (fun r hr => Got.neg hn (Got.now ⟨?_, fun _ => ?_, fun _ => by omega, hr.2.2⟩))
    · exact Int.tmod_nonneg _ hr.1
    · exact Int.tmod_lt_of_pos _ (by omega)
  · refine (l1Byte_got h c).bind (fun r1 h1 => (l1Byte_got h1.2.2 _).bind (fun r2 h2 => (l1Byte_got h2.2.2 _).bind (fun r3 h3 => (l1Byte_got h3.2.2 _).bind (fun r4 h4 => Got.neg hn (Got.now ⟨?_, fun _ => ?_, fun _ => by omega, h4.2.2⟩)))))
    · refine Int.tmod_nonneg _ ?_
      have e1 : wrap64 (r1.1 * 16777216) = r1.1 * 16777216 := w64 (by omega) (by omega)
      have e2 : wrap64 (r2.1 * 65536) = r2.1 * 65536 := w64 (by omega) (by omega)
      have e3 : wrap64 (r3.1 * 256) = r3.1 * 256 := w64 (by omega) (by omega)
      rw [e1, e2, e3, w64 (n := r1.1 * 16777216 + r2.1 * 65536) (by omega) (by omega), w64 (n := r1.1 * 16777216 + r2.1 * 65536 + r3.1 * 256) (by omega) (by omega), w64 (by omega) (by omega)]
      omega
    · exact Int.tmod_lt_of_pos _ (by omega)
theorem l1New_evg (b : List Int) (hb : b.length ≤ 1048576) : EvG (fun k => spec_l1New.f k b) (fun r => r.1 = b ∧ r.2.1 = 0) := by
  have key : ∀ i : Nat, i ≤ b.length → ∀ h : Int, EvG (fun k => spec_l1New.l0 k b h (i : Int)) (fun r => r.1 = b ∧ r.2.1 = 0) := by
    refine back ?_ fun i hi ih => ?_
    · intro h
      refine EvG.shift ?_
      simp only [spec_l1New.l0, Int.lt_irrefl, if_false]
      exact EvG.now ⟨rfl, rfl⟩
    · intro h
      have c0 : (0 : Int) ≤ (i : Int) := by omega
      have c1 : (i : Int) < (b.length : Int) := by omega
      refine EvG.shift ?_
      simp only [spec_l1New.l0, c0, c1, if_true, succ64 hi (by omega)]
      refine EvG.ite (fun _ => ih _) (fun _ => EvG.now ⟨rfl, rfl⟩)
  simp only [spec_l1New.f]
  exact key 0 (Nat.zero_le _) _
theorem okC_start {b : List Int} (hb : b.length ≤ 1048576) : okC b 0 := ⟨hb, Int.le_refl _, by omega⟩
end Go.Proofs.Ytcedikpkbgofhaa.P
end
section
set_option linter.unusedSimpArgs false
set_option linter.unusedVariables false
namespace Go.Proofs.Ytcedikpkbgofhaa.P
open Go.RowKit Go.Proofs.YtcedikpkbgofhaaW.PrintWords Go.Proofs.YtcedikpkbgofhaaW.PrintLast Go.Proofs.YtcedikpkbgofhaaZ
theorem l1PickInt_got {b : List Int} {i : Int} (h : okC b i) (c : Int) (l : List Int) (hl : l ≠ []) : Got (spec_l1PickInt.f b i c l) (fun r => r.1 ∈ l ∧ okC b r.2.1) := by
  have hp := List.length_pos_iff.mpr hl
  simp only [spec_l1PickInt.f]
  refine (l1Below_got h c _).bind (fun r hr => Got.pos hr.1 (Got.pos (hr.2.1 (by omega)) (Got.now ⟨?_, hr.2.2.2⟩)))
  have h1 := hr.1
  have h2 := hr.2.1 (by omega)
  obtain ⟨n, hn⟩ : ∃ n : Nat, r.1 = (n : Int) := ⟨r.1.toNat, by omega⟩
  have hlt : n < l.length := by omega
  show rd l r.1 ∈ l
  rw [hn, rd_get (List.getElem?_eq_getElem hlt)]
  exact List.getElem_mem hlt
theorem l1Pick_got {b : List Int} {i : Int} (h : okC b i) (c : Int) (l : List ByteArray) (hl : l ≠ []) : Got (spec_l1Pick.f b i c l) (fun r => r.1 ∈ l ∧ okC b r.2.1) := by
  have hp := List.length_pos_iff.mpr hl
  simp only [spec_l1Pick.f]
  refine (l1Below_got h c _).bind (fun r hr => Got.pos hr.1 (Got.pos (hr.2.1 (by omega)) (Got.now ⟨?_, hr.2.2.2⟩)))
  have h1 := hr.1
  have h2 := hr.2.1 (by omega)
  obtain ⟨n, hn⟩ : ∃ n : Nat, r.1 = (n : Int) := ⟨r.1.toNat, by omega⟩
  have hlt : n < l.length := by omega
  show rdOf ByteArray.empty l r.1 ∈ l
  rw [hn]
  have e : rdOf ByteArray.empty l (n : Int) = l[n] := getD_get (List.getElem?_eq_getElem hlt)
  rw [e]
  exact List.getElem_mem hlt
end Go.Proofs.Ytcedikpkbgofhaa.P
end
section
set_option linter.unusedSimpArgs false
set_option linter.unusedVariables false
namespace Go.Proofs.Ytcedikpkbgofhaa.P
open Go.RowKit Go.Proofs.YtcedikpkbgofhaaW.PrintWords Go.Proofs.YtcedikpkbgofhaaW.PrintLast Go.Proofs.YtcedikpkbgofhaaZ
theorem l17DrawOf_got {b : List Int} {i : Int} (h : okC b i) (c n : Int) : Got (spec_l17DrawOf.f b i c n) (fun r => r.2.2.1.size ≤ 22 ∧ okC b r.2.2.2.1) := by
  simp only [spec_l17DrawOf.f]
  refine Got.ite (fun _ => (l1Below_got h c 2).bind (fun r hr => Got.now ⟨by show 0 ≤ 22; decide, hr.2.2.2⟩)) (fun _ => ?_)
  refine Got.ite (fun _ => (l1PickInt_got h c _ (by simp)).bind (fun r hr => Got.now ⟨by show 0 ≤ 22; decide, hr.2⟩)) (fun _ => ?_)
  refine Got.ite (fun _ => (l1Pick_got h c _ (by simp)).bind (fun r hr => Got.now ⟨?_, hr.2⟩)) (fun _ => Got.now ⟨by show 0 ≤ 22; decide, h⟩)
  have h1 := hr.1
  show r.1.size ≤ 22
  simp only [List.mem_cons, List.not_mem_nil, or_false] at h1
  rcases h1 with h | h | h | h | h | h | h | h | h <;> rw [h] <;> decide +kernel
theorem l17DrawRight_got {b : List Int} {i : Int} (h : okC b i) (c : Int) : Got (spec_l17DrawRight.f b i c) (fun r => r.2.2.1.size ≤ 22 ∧ okC b r.2.2.2.1) := by
  simp only [spec_l17DrawRight.f]
  exact (l1Below_got h c 4).bind (fun r hr => (l17DrawOf_got hr.2.2.2 _ _).bind (fun r2 hr2 => Got.now hr2))
end Go.Proofs.Ytcedikpkbgofhaa.P
end
section
set_option linter.unusedSimpArgs false
set_option linter.unusedVariables false
namespace Go.Proofs.Ytcedikpkbgofhaa.P
open Go.RowKit Go.Proofs.YtcedikpkbgofhaaW.PrintWords Go.Proofs.YtcedikpkbgofhaaW.PrintLast Go.Proofs.YtcedikpkbgofhaaZ
theorem l18DrawRight_evg {b : List Int} {i : Int} (h : okC b i) (c : Int) : EvG (fun k => spec_l18DrawRight.f k b i c) (fun r => r.1.length ≤ 5 ∧ okC b r.2.1) := by
  have key : ∀ (n : Nat) (x : List S37) (i c : Int), x.length + n = 5 → okC b i → EvG (fun k => spec_l18DrawRight.l0 k x (x.length : Int) b i c) (fun r => r.1.length ≤ 5 ∧ okC b r.2.1) := by
    intro n
    induction n with
    | zero =>
      intro x i c hx hc
      refine EvG.shift ?_
      simp only [spec_l18DrawRight.l0]
      refine EvG.bind (EvG.of_got (l1Below_got hc c 5)) (fun r hr => EvG.neg ?_ (EvG.now ⟨by show x.length ≤ 5; omega, hr.2.2.2⟩))
      have := hr.2.1 (by decide)
      omega
    | succ n ih =>
      intro x i c hx hc
      refine EvG.shift ?_
      simp only [spec_l18DrawRight.l0]
      refine EvG.bind (EvG.of_got (l1Below_got hc c 5)) (fun r hr => EvG.ite (fun _ => ?_) (fun _ => EvG.now ⟨by show x.length ≤ 5; omega, hr.2.2.2⟩))
      refine EvG.bind (EvG.of_got (l17DrawRight_got hr.2.2.2 _)) (fun r2 hr2 => EvG.pos (by omega) ?_)
      have h2 := ih (x ++ [⟨r2.1, r2.2.1, r2.2.2.1⟩]) r2.2.2.2.1 r2.2.2.2.2 (by simp only [List.length_append, List.length_cons, List.length_nil]; omega) hr2.2
      have e : (((x ++ [(⟨r2.1, r2.2.1, r2.2.2.1⟩ : S37)]).length : Nat) : Int) = wrap64 ((x.length : Int) + 1) := by
        rw [w64 (by omega) (by omega)]
        simp only [List.length_append, List.length_cons, List.length_nil]
        omega
      rw [e] at h2
      exact h2
  simp only [spec_l18DrawRight.f]
  exact key 5 [] i c rfl h
end Go.Proofs.Ytcedikpkbgofhaa.P
end
namespace Go.Proofs.Ytcedikpkbgofhaa.P
open Go.RowKit Go.Proofs.YtcedikpkbgofhaaW.PrintWords Go.Proofs.YtcedikpkbgofhaaW.PrintLast Go.Proofs.YtcedikpkbgofhaaW.PrintMore
attribute [local go_sem] max2_int min2_int max_two min_two max_three min_three max_four min_four   -- for this text's walks alone
set_option linter.unusedVariables false
set_option linter.unusedSimpArgs false
end Go.Proofs.Ytcedikpkbgofhaa.P
namespace Go.Proofs.Ytcedikpkbgofhaa.P
open Go.RowKit Go.Proofs.YtcedikpkbgofhaaW.PrintWords Go.Proofs.YtcedikpkbgofhaaW.PrintLast Go.Proofs.YtcedikpkbgofhaaW.PrintMore
attribute [local go_sem] max2_int min2_int max_two min_two max_three min_three max_four min_four   -- for this text's walks alone
set_option linter.unusedVariables false
set_option linter.unusedSimpArgs false
end Go.Proofs.Ytcedikpkbgofhaa.P
namespace Go.Proofs.Ytcedikpkbgofhaa.P
open Go.RowKit Go.Proofs.YtcedikpkbgofhaaW.PrintWords Go.Proofs.YtcedikpkbgofhaaW.PrintLast Go.Proofs.YtcedikpkbgofhaaW.PrintMore
attribute [local go_sem] max2_int min2_int max_two min_two max_three min_three max_four min_four   -- for this text's walks alone
set_option linter.unusedVariables false
set_option linter.unusedSimpArgs false
end Go.Proofs.Ytcedikpkbgofhaa.P
namespace Go.Proofs.Ytcedikpkbgofhaa.P
open Go.RowKit Go.Proofs.YtcedikpkbgofhaaW.PrintWords Go.Proofs.YtcedikpkbgofhaaW.PrintLast Go.Proofs.YtcedikpkbgofhaaW.PrintMore
attribute [local go_sem] max2_int min2_int max_two min_two max_three min_three max_four min_four   -- for this text's walks alone
set_option linter.unusedVariables false
set_option linter.unusedSimpArgs false
end Go.Proofs.Ytcedikpkbgofhaa.P
namespace Go.Proofs.Ytcedikpkbgofhaa.P
open Go.RowKit Go.Proofs.YtcedikpkbgofhaaW.PrintWords Go.Proofs.YtcedikpkbgofhaaW.PrintLast Go.Proofs.YtcedikpkbgofhaaW.PrintMore
attribute [local go_sem] max2_int min2_int max_two min_two max_three min_three max_four min_four   -- for this text's walks alone
set_option linter.unusedVariables false
set_option linter.unusedSimpArgs false
attribute [local go_sem high] eqA37
end Go.Proofs.Ytcedikpkbgofhaa.P
section
set_option linter.unusedSimpArgs false
set_option linter.unusedVariables false
namespace Go.Proofs.Ytcedikpkbgofhaa.P
open Go.RowKit Go.Proofs.YtcedikpkbgofhaaW.PrintWords Go.Proofs.YtcedikpkbgofhaaW.PrintLast Go.Proofs.YtcedikpkbgofhaaZ
theorem val_eq_iff (a b : iV) : a = b ↔ (a.f0 = b.f0 ∧ a.f1 = b.f1 ∧ a.f2.toList = b.f2.toList) := by
  constructor
  · intro h; subst h; exact ⟨rfl, rfl, rfl⟩
  · intro ⟨h0, h1, h2⟩
    cases a; cases b
    simp only at h0 h1 h2
    rw [ByteArray.toList_eq, ByteArray.toList_eq] at h2
    have h3 := Array.toList_inj.mp h2
    simp only [h0, h1]
    congr 1
    cases ‹ByteArray›; cases ‹ByteArray›
    congr 1
theorem sameTuple_ev (x y : List iV) (hx : x.length ≤ 9223372036854775807) : ∃ r : Bool, (r = true ↔ x = y) ∧ Ev (fun k => laws_sameTuple.f k x y) r := by
  simp only [laws_sameTuple.f]
  by_cases h : (x.length : Int) = (y.length : Int)
  · have hl : x.length = y.length := by omega
    simp only [h, if_true]
    have key : ∀ i : Nat, i ≤ x.length → ∃ r : Bool, (r = true ↔ x.drop i = y.drop i) ∧ Ev (fun k => laws_sameTuple.l0 k x y (i : Int)) r := by
      refine back ?_ fun i hi ih => ?_
      · refine ⟨true, ?_, Ev.shift ?_⟩
        · rw [List.drop_length, List.drop_eq_nil_of_le (by omega)]; simp
        · simp only [laws_sameTuple.l0, Int.lt_irrefl, if_false]
          exact Ev.now _
      · obtain ⟨r, h1, h2⟩ := ih
        have hy : i < y.length := by omega
        have c0 : (0 : Int) ≤ (i : Int) := by omega
        have c1 : (i : Int) < (x.length : Int) := by omega
        have c2 : (i : Int) < (y.length : Int) := by omega
        have ex : rd_T37 x (i : Int) = x[i] := getD_get (List.getElem?_eq_getElem hi)
        have ey : rd_T37 y (i : Int) = y[i] := getD_get (List.getElem?_eq_getElem hy)
        have hd : (x.drop i = y.drop i) ↔ (x[i] = y[i] ∧ x.drop (i + 1) = y.drop (i + 1)) := by
          rw [List.drop_eq_getElem_cons hi, List.drop_eq_getElem_cons hy]
          exact List.cons_eq_cons
        by_cases he : x[i] = y[i]
        · refine ⟨r, ?_, Ev.shift ?_⟩
          · rw [h1, hd]; simp [he]
          · simp only [laws_sameTuple.l0, c0, c1, c2, if_true, ex, ey, he, beq_self_eq_true, Bool.not_true, Bool.or_false, Bool.false_eq_true, if_false, succ64 hi hx]
            exact h2
        · refine ⟨false, ?_, Ev.shift ?_⟩
          · rw [hd]; simp [he]
          · have hne : (!(x[i].f0 == y[i].f0) || (!(x[i].f1 == y[i].f1) || !(x[i].f2.toList == y[i].f2.toList))) = true := by
              rw [val_eq_iff] at he
              cases c : (x[i].f0 == y[i].f0)
              · simp
              · cases c' : (x[i].f1 == y[i].f1)
                · simp
                · cases c'' : (x[i].f2.toList == y[i].f2.toList)
                  · simp
                  · exact absurd ⟨by simpa using c, by simpa using c', by simpa using c''⟩ he
            simp only [laws_sameTuple.l0, c0, c1, c2, if_true, ex, ey, hne]
            exact Ev.now _
    exact key 0 (Nat.zero_le _)
  · refine ⟨false, ?_, ?_⟩
    · constructor
      · intro h; cases h
      · intro e; rw [e] at h; exact absurd rfl h
    · simp only [h, if_false]
      exact Ev.now _
end Go.Proofs.Ytcedikpkbgofhaa.P
end
section
set_option linter.unusedSimpArgs false
set_option linter.unusedVariables false
namespace Go.Proofs.Ytcedikpkbgofhaa.P
open Go.RowKit Go.Proofs.YtcedikpkbgofhaaW.PrintWords Go.Proofs.YtcedikpkbgofhaaW.PrintLast Go.Proofs.YtcedikpkbgofhaaZ
theorem drawProject_evg (b : List Int) (hb : b.length ≤ 1048576) : EvG (fun k => spec_DrawProject.f k b) (fun r => r.1.length ≤ 7 ∧ r.2.length ≤ 7) := by
  simp only [spec_DrawProject.f]
  refine EvG.bind (l1New_evg b hb) (fun r hr => ?_)
  have hc : okC r.1 r.2.1 := by rw [hr.1, hr.2]; exact okC_start hb
  refine EvG.bind (l18DrawRight_evg hc _) (fun r2 hr2 => ?_)
  have key : ∀ (n : Nat) (x : List Int) (i c : Int), x.length + n = 4 → okC r.1 i → EvG (fun k => spec_DrawProject.l0 k r2.1 x (x.length : Int) r.1 i c) (fun r => r.1.length ≤ 7 ∧ r.2.length ≤ 7) := by
    intro n
    induction n with
    | zero =>
      intro x i c hx hc
      refine EvG.shift ?_
      simp only [spec_DrawProject.l0]
      refine EvG.bind (EvG.of_got (l1Below_got hc c 4)) (fun q hq => EvG.neg ?_ (EvG.now ⟨by have := hr2.1; show r2.1.length ≤ 7; omega, by show x.length ≤ 7; omega⟩))
      have := hq.2.1 (by decide)
      omega
    | succ n ih =>
      intro x i c hx hc
      refine EvG.shift ?_
      simp only [spec_DrawProject.l0]
      refine EvG.bind (EvG.of_got (l1Below_got hc c 4)) (fun q hq => EvG.ite (fun _ => ?_) (fun _ => EvG.now ⟨by have := hr2.1; show r2.1.length ≤ 7; omega, by show x.length ≤ 7; omega⟩))
      refine EvG.bind (EvG.of_got (l1Below_got hq.2.2.2 _ 6)) (fun q2 hq2 => EvG.pos (by omega) ?_)
      have h2 := ih (x ++ [wrap64 (q2.1 - 1)]) q2.2.1 q2.2.2 (by simp only [List.length_append, List.length_cons, List.length_nil]; omega) hq2.2.2.2
      have e : (((x ++ [wrap64 (q2.1 - 1)]).length : Nat) : Int) = wrap64 ((x.length : Int) + 1) := by
        rw [w64 (n := (x.length : Int) + 1) (by omega) (by omega), List.length_append, List.length_cons, List.length_nil]
        omega
      rw [e] at h2
      exact h2
  exact key 4 [] r2.2.1 r2.2.2 rfl hr2.2
theorem u8_in {n : Int} (h : (Lit.int .u8 n).wf = true) : 0 ≤ n ∧ n < 256 := by
  simp [Lit.wf, IntKind.min, IntKind.max, IntKind.bits, IntKind.signed] at h
  omega
theorem at_got (x : List Int) (hx : x.length ≤ 1048576) (hB : ∀ y ∈ x, (Lit.int .u8 y).wf = true) : Got (laws_at.f x 1) (fun r => 0 ≤ r) := by
  simp only [laws_at.f]
  refine Got.ite (fun h => Got.pos (by decide) (Got.now ?_)) (fun h => Got.now ?_)
  · have hi : 1 < x.length := by omega
    have e : rd x 1 = x[1] := rd_get (List.getElem?_eq_getElem hi)
    have := u8_in (hB _ (List.getElem_mem hi))
    rw [e, w64 (by omega) (by omega)]
    exact this.1
  · refine Int.tmod_nonneg _ ?_
    rw [w64 (n := 1 * 7) (by decide) (by decide), w64 (by omega) (by omega)]
    omega
theorem pureFnProjects : PureFnProjects := by
  intro x hx
  refine Ev.rounds ?_
  simp only [laws_FnProjects.f, laws_big.f, Option.bind_some]
  by_cases hp : (x.length : Int) > 1048576
  · simp only [hp, decide_true, if_true]; exact Ev.now _
  · simp only [hp, decide_false, Bool.false_eq_true, if_false]
    obtain ⟨⟨l, p⟩, h1, h2, h3⟩ := drawProject_evg x (by omega)
    simp only at h2 h3
    have hl : l.length ≤ 1048576 := by omega
    have hpp : p.length ≤ 1048576 := by omega
    have hpl := projV_le l p
    refine Ev.bind h1 (Ev.bind (impl_Project_ev l p hl hpp) (Ev.bind (spec_Project_ev l p hl hpp) ?_))
    have hsame : ∀ q : List iV, q.length ≤ 1000 → Ev (fun k => laws_sameTuple.f k q q) true := by
      intro q hq
      obtain ⟨r, hr, hs⟩ := sameTuple_ev q q (by omega)
      rw [hr.mpr rfl] at hs
      exact hs
    refine Ev.bind (hsame _ (by omega)) ?_
    simp only [if_true]
    obtain ⟨a, ha, ha0⟩ := at_got x (by omega) hx.2
    refine Ev.bind (Ev.of_eq ha) ?_
    have hw : wrap64 ((p.length : Int) + 1) = (p.length : Int) + 1 := w64 (by omega) (by omega)
    have hne : ¬ ((p.length : Int) + 1 = 0) := by omega
    have hk0 : 0 ≤ Int.tmod a ((p.length : Int) + 1) := Int.tmod_nonneg _ ha0
    have hk1 : Int.tmod a ((p.length : Int) + 1) ≤ (p.length : Int) := by
      have := Int.tmod_lt_of_pos a (show 0 < (p.length : Int) + 1 by omega)
      omega
    simp only [hw]
    refine Ev.neg hne (Ev.bind (Ev.now _) (Ev.pos hk0 (Ev.pos hk1 ?_)))
    generalize (Int.tmod a ((p.length : Int) + 1)).toNat = m
    have t1 := projV_le l (p.take m)
    have t2 := projV_le l (p.drop m)
    have t3 : (p.take m).length ≤ 7 := by rw [List.length_take]; omega
    have t4 : (p.drop m).length ≤ 7 := by rw [List.length_drop]; omega
    have c1 : ([] : List iV).length + (projV l (p.take m)).length < 4398046511104 := by simp only [List.length_nil]; omega
    have c2 : ([] ++ projV l (p.take m)).length + (projV l (p.drop m)).length < 4398046511104 := by simp only [List.nil_append]; omega
    refine Ev.bind (impl_Project_ev l (p.take m) hl (by omega)) ?_
    refine Ev.pos c1 ?_
    refine Ev.bind (impl_Project_ev l (p.drop m) hl (by omega)) ?_
    refine Ev.pos c2 ?_
    have e : [] ++ projV l (p.take m) ++ projV l (p.drop m) = projV l p := by
      rw [List.nil_append]
      unfold projV
      rw [← List.flatMap_append, List.take_append_drop]
    rw [e]
    refine Ev.bind (hsame _ (by omega)) ?_
    simp only [if_true]
    exact Ev.val (by simp; omega)
end Go.Proofs.Ytcedikpkbgofhaa.P
end
namespace Go.Proofs.Ytcedikpkbgofhaa.fnProjects
open Go.ChangeShapes Go.WideShapes Go.ChangeAt Go.RowKit Go.Proofs.YtcedikpkbgofhaaW.PrintWords Go.Proofs.YtcedikpkbgofhaaW.PrintLast Go.Proofs.YtcedikpkbgofhaaZ Go.Proofs.Ytcedikpkbgofhaa.P
open Go.ChangeMaps (open_string shut_string)
set_option linter.unusedVariables false
theorem own : ownKnob Try.prog.godebug = none := by kernel_rfl
theorem laidOut : laidOutB Try.prog = true := by kernel_rfl
set_option maxRecDepth 100000 in
theorem lifted (os : Os) (started : os.Started) (H : Type) (enc : TypeId × Value → H) :
    ReturnsInHanded {} Try.checked os 4 .any (Rows.fnProjectsSpec.pre6 enc Try.prog Try.f4 Rows.fnProjectsRow.domain false) (Rows.fnProjectsSpec.post enc Try.prog Try.f4 false true false false) := by
  refine returnsInHanded_of_change_sized (C := Try.checked) own started (by kernel_rfl) Try.func4
    (ChangeSpec.witness6 (enc := enc) (C := Try.checked) false ⟨#[], #[.slice none 0 0], []⟩ 8 (by kernel_rfl) (by kernel_rfl) (by kernel_rfl) (by kernel_rfl)) ?_
  intro W base args ds gs before hval0 hW hcnd hsz0 _
  have hval : ∀ (j : Nat) t v, Try.f4.params[j]? = some t → args[j]? = some v → Value.okWide Try.prog W .any base t v := hval0
  have hW' := hW
  obtain ⟨p, q, hA0, hV, rfl, hfz, hnd⟩ := hW
  have hA : DataW.TrodAll enc Try.prog W 0 (fun _ => true) true Try.f4.params.toList args.toList ds p := hA0
  rw [Try.params4] at hA hval
  obtain ⟨v0, vs0, d0, ds0, p0, q0, hargs, rfl, rfl, h0, r0⟩ := trodAll_cons hA
  obtain ⟨rfl, rfl, rfl⟩ := trodAll_nil r0
  obtain rfl : args = #[v0] := by cases args; simp_all
  obtain ⟨rfl, rfl⟩ := trodVars_none hV
  have k0_ := h0
  have lt0 : ∀ x ∈ p0, x.block < W.heap.size := by obtain ⟨m, hm⟩ := k0_; exact DataW.trod_lt m _ _ _ hm
  obtain ⟨a0_, len0_, cap0_, rfl⟩ := okWide_slice Try.underlying22 (hval 0 22 v0 rfl rfl)
  obtain ⟨x0, K0, wf0_⟩ := Opens.param (Opens.slice 5 Try.underlying22 (by kernel_rfl) (Opens.int Try.underlying5)) h0
  obtain ⟨A0, c0, e0, l0, g0⟩ := K0
  simp [Value.cells] at e0
  obtain ⟨rfl, rfl, rfl⟩ := e0
  obtain ⟨k, hk⟩ := pureFnProjects x0 wf0_
  clear hA0 hval0 hsz0
  refine (laws_FnProjects.calls k _ _ x0 true W g0 l0 hk).mono fun e W' hh => ?_
  obtain ⟨he, bel0⟩ := hh
  have bel : Below W.heap.size W W' := bel0
  subst he
  exact ⟨_, rfl, _, _, _, [], _, [], hW', trodAll_mk1 (shut_bool Try.underlying4 _), (trodAll_cons_mk (Below.trod laidOut (by kernel_rfl) (of_decide_eq_true (by kernel_rfl)) k0_ bel lt0) trodAll_mk0), rfl, bel.frame _, fun h => by cases h⟩
theorem over : Rows.fnProjectsRow.holds Try.pinned (OpenSpec.ofChange Rows.fnProjectsSpec) :=
  OpenClaim.holds_of_wide 4 Try.f4 rfl rfl rfl rfl rfl rfl rfl ⟨rfl, rfl, rfl, rfl, rfl⟩ rfl rfl rfl rfl rfl (by kernel_rfl) Try.func4 (by kernel_rfl)
    (of_decide_eq_true (by kernel_rfl)) (by unfold Func.isWrapper; first | (rw [if_pos (by decide +kernel)]; kernel_rfl) | (rw [if_neg (by decide +kernel)]; exact ⟨rfl, rfl⟩))
    (fun os started H enc _ => lifted os started H enc)
theorem proved : Rows.FnProjectsSaid := over
#print axioms proved
end Go.Proofs.Ytcedikpkbgofhaa.fnProjects
namespace Go.Proofs.Ytcedikpkbgofhaa
theorem fnProjects_holds : Rows.FnProjectsSaid := fnProjects.proved
end Go.Proofs.Ytcedikpkbgofhaa

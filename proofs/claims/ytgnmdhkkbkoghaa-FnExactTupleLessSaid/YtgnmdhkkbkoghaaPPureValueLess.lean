/- Values in order: what the program's and the reference's tell is one comparison. -/
import Derived.Test.YtgnmdhkkbkoghaaPxf18
import Derived.Test.YtgnmdhkkbkoghaaPxf23
import Derived.Test.YtgnmdhkkbkoghaaPxf24
import Derived.Test.YtgnmdhkkbkoghaaPxf55
import Derived.Test.YtgnmdhkkbkoghaaPxf68
import Derived.Test.YtgnmdhkkbkoghaaPPlumbValue
set_option linter.unusedSimpArgs false
set_option linter.unusedVariables false
namespace Go.Proofs.Ytgnmdhkkbkoghaa.P
open Go.RowKit Go.Proofs.YtgnmdhkkbkoghaaW.PrintWords Go.Proofs.YtgnmdhkkbkoghaaW.PrintLast Go.Proofs.YtgnmdhkkbkoghaaZ
theorem u8_lt_or (a b : UInt8) : a < b ∨ a = b ∨ b < a := by
  rcases Nat.lt_trichotomy a.toNat b.toNat with h | h | h
  · exact Or.inl (UInt8.lt_iff_toNat_lt.mpr h)
  · exact Or.inr (Or.inl (UInt8.toNat_inj.mp h))
  · exact Or.inr (Or.inr (UInt8.lt_iff_toNat_lt.mpr h))
theorem u8_irr (a : UInt8) : ¬ a < a := fun h => Nat.lt_irrefl _ (UInt8.lt_iff_toNat_lt.mp h)
theorem u8_asym {a b : UInt8} (h : a < b) : ¬ b < a := fun h2 => Nat.lt_asymm (UInt8.lt_iff_toNat_lt.mp h) (UInt8.lt_iff_toNat_lt.mp h2)
theorem u8_ne {a b : UInt8} (h : a < b) : a ≠ b := fun e => u8_irr b (e ▸ h)
theorem cmpB_zero : ∀ a b : List UInt8, (Lib.compareBytes a b == 0) = (a == b)
  | [], [] => by simp [Lib.compareBytes]
  | [], _ :: _ => by simp [Lib.compareBytes]
  | _ :: _, [] => by simp [Lib.compareBytes]
  | a :: x, b :: y => by
    simp only [Lib.compareBytes]
    rcases u8_lt_or a b with h | h | h
    · have := u8_ne h
      simp [h, this]
    · subst h
      have ih := cmpB_zero x y
      simp only [u8_irr, if_false]
      rw [ih]
      simp
    · have := (u8_ne h).symm
      simp [h, this, u8_asym h]
theorem cmpB_lt : ∀ a b : List UInt8, decide (Lib.compareBytes a b < 0) = Op.bytesLess a b
  | [], [] => by simp [Lib.compareBytes, Op.bytesLess]
  | [], _ :: _ => by simp [Lib.compareBytes, Op.bytesLess]
  | _ :: _, [] => by simp [Lib.compareBytes, Op.bytesLess]
  | a :: x, b :: y => by
    simp only [Lib.compareBytes, Op.bytesLess]
    rcases u8_lt_or a b with h | h | h
    · simp [h]
    · subst h
      have ih := cmpB_lt x y
      simp only [u8_irr, if_false]
      rw [ih]
      simp
    · have := (u8_ne h).symm
      simp [h, this, u8_asym h]
def byV (a b : iV) : Int := if a.f0 < b.f0 then -1 else if a.f0 > b.f0 then 1 else if a.f1 < b.f1 then -1 else if a.f1 > b.f1 then 1 else Lib.compareBytes a.f2.toList b.f2.toList
theorem impl_byValue_ev (a b : iV) : Ev (fun k => impl_byValue.f k a.f0 a.f1 a.f2 b.f0 b.f1 b.f2) (byV a b) := by
  simp only [impl_byValue.f, byV]
  by_cases h1 : a.f0 < b.f0
  · simp only [h1, if_true]
    refine Ev.shift ?_
    simp only [impl_byValue.j0, if_true]
    exact Ev.now _
  · by_cases h2 : a.f0 = b.f0
    · have h3 : ¬ a.f0 > b.f0 := by omega
      simp only [h1, if_false, h2, if_true]
      refine Ev.shift ?_
      have h4 : ¬ b.f0 > b.f0 := by omega
      have h4' : ¬ b.f0 < b.f0 := by omega
      by_cases h5 : a.f1 < b.f1
      · simp only [impl_byValue.j0, h5, decide_true, if_true, h4, h4', if_false]
        exact Ev.now _
      · by_cases h6 : a.f1 > b.f1
        · simp only [impl_byValue.j0, h5, decide_false, Bool.false_eq_true, if_false, h4, h4', h6, if_true]
          exact Ev.now _
        · simp only [impl_byValue.j0, h5, decide_false, Bool.false_eq_true, if_false, h4, h4', h6, strings_Compare.f, Option.bind_some, ByteArray.toList_eq]
          exact Ev.now _
    · have h3 : a.f0 > b.f0 := by omega
      simp only [h1, h2, h3, if_false, if_true]
      refine Ev.shift ?_
      simp only [impl_byValue.j0, Bool.false_eq_true, if_false, h3, if_true]
      exact Ev.now _
theorem spec_ValueLess_eq (a b : iV) : spec_ValueLess.f a.f0 a.f1 a.f2 b.f0 b.f1 b.f2 = some (decide (byV a b < 0)) := by
  simp only [spec_ValueLess.f, byV]
  by_cases h1 : a.f0 < b.f0
  · have h2 : ¬ a.f0 = b.f0 := by omega
    simp [h1, h2]
  · by_cases h2 : a.f0 = b.f0
    · simp only [h2, if_true, Int.lt_irrefl, if_false, gt_iff_lt]
      by_cases h5 : a.f1 < b.f1
      · have h6 : ¬ a.f1 = b.f1 := by omega
        simp [h5, h6]
      · by_cases h6 : a.f1 = b.f1
        · simp [h6, cmpB_lt]
        · have h7 : b.f1 < a.f1 := by omega
          simp [h5, h6, h7]
    · have h3 : a.f0 > b.f0 := by omega
      simp [h1, h2, h3]
theorem byV_zero (a b : iV) : (byV a b == 0) = (a.f0 == b.f0 && (a.f1 == b.f1 && (a.f2.toList == b.f2.toList))) := by
  unfold byV
  by_cases h1 : a.f0 < b.f0
  · have h2 : ¬ a.f0 = b.f0 := by omega
    simp [h1, h2]
  · by_cases h2 : a.f0 = b.f0
    · simp only [h2, Int.lt_irrefl, if_false, gt_iff_lt]
      by_cases h5 : a.f1 < b.f1
      · have h6 : ¬ a.f1 = b.f1 := by omega
        simp [h5, h6]
      · by_cases h6 : a.f1 = b.f1
        · simp only [h6, Int.lt_irrefl, if_false, cmpB_zero, beq_self_eq_true, Bool.true_and]
        · have h7 : b.f1 < a.f1 := by omega
          simp [h5, h6, h7]
    · have h3 : a.f0 > b.f0 := by omega
      simp [h1, h2, h3]
theorem spec_ValueSame_eq (a b : iV) : spec_ValueSame.f a.f0 a.f1 a.f2 b.f0 b.f1 b.f2 = some (byV a b == 0) := by
  rw [byV_zero]; rfl
theorem impl_ValueLess_ev (a b : iV) : Ev (fun k => impl_ValueLess.f k a.f0 a.f1 a.f2 b.f0 b.f1 b.f2) (decide (byV a b < 0)) := by
  simp only [impl_ValueLess.f]
  refine Ev.bind (impl_byValue_ev a b) ?_
  exact Ev.now _
end Go.Proofs.Ytgnmdhkkbkoghaa.P

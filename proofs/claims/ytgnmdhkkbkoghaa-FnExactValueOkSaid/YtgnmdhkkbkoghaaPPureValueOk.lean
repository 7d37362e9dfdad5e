/- ValueOk: the program's and the reference's are one. -/
import Derived.Test.YtgnmdhkkbkoghaaPxf25
import Derived.Test.YtgnmdhkkbkoghaaPxf26
import Derived.Test.YtgnmdhkkbkoghaaPPlumbValue
set_option linter.unusedSimpArgs false
set_option linter.unusedVariables false
namespace Go.Proofs.Ytgnmdhkkbkoghaa.P
open Go.RowKit Go.Proofs.YtgnmdhkkbkoghaaW.PrintWords Go.Proofs.YtgnmdhkkbkoghaaW.PrintLast Go.Proofs.YtgnmdhkkbkoghaaZ
def okV (a : iV) : Bool := (a.f0 == 0 && a.f1 == 0 && a.f2.size == 0) || (a.f0 == 1 && decide (0 ≤ a.f1 ∧ a.f1 ≤ 1) && a.f2.size == 0) || (a.f0 == 2 && decide (-1000000000000 ≤ a.f1 ∧ a.f1 ≤ 1000000000000) && a.f2.size == 0) || (a.f0 == 3 && a.f1 == 0 && decide (a.f2.size ≤ 20))
theorem ba_nil (s : ByteArray) : (s.toList == ([] : List UInt8)) = (s.size == 0) := by
  rw [ByteArray.toList_eq, Bool.eq_iff_iff]
  simp only [beq_iff_eq]
  constructor
  · intro h; show s.data.size = 0; rw [← Array.length_toList, h]; rfl
  · intro h; apply List.eq_nil_of_length_eq_zero; rw [Array.length_toList]; exact h
theorem spec_ValueOk_eq (a : iV) : spec_ValueOk.f a.f0 a.f1 a.f2 = some (okV a) := by
  simp only [spec_ValueOk.f, spec_l1In.f, okV, ba_nil]
  by_cases h0 : a.f0 = 0
  · by_cases h1 : a.f1 = 0 <;> simp [h0, h1]
  · by_cases h1 : a.f0 = 1
    · by_cases h2 : a.f1 ≥ 0 <;> by_cases h3 : a.f1 ≤ 1 <;> simp [h0, h1, h2, h3]
    · by_cases h2 : a.f0 = 2
      · by_cases h4 : a.f1 ≥ (-1000000000000) <;> by_cases h3 : a.f1 ≤ 1000000000000 <;> simp [h0, h1, h2, h3, h4]
      · by_cases h3 : a.f0 = 3
        · by_cases h4 : a.f1 = 0
          · simp [h3, h4]; omega
          · simp [h3, h4]
        · simp [h0, h1, h2, h3]
theorem impl_ValueOk_eq (a : iV) : impl_ValueOk.f a.f0 a.f1 a.f2 = some (okV a) := spec_ValueOk_eq a
end Go.Proofs.Ytgnmdhkkbkoghaa.P

/- The laws' mark as a text: what it tells. -/
import Derived.Test.YtgnmdhkkbkoghaaPxf62
import Derived.Test.YtgnmdhkkbkoghaaZPure
import Derived.Test.YtgnmdhkkbkoghaaPPureDgs
set_option linter.unusedSimpArgs false
set_option linter.unusedVariables false
namespace Go.Proofs.Ytgnmdhkkbkoghaa.P
open Go.RowKit Go.Proofs.YtgnmdhkkbkoghaaW.PrintWords Go.Proofs.YtgnmdhkkbkoghaaW.PrintLast Go.Proofs.YtgnmdhkkbkoghaaZ
def mtext (m : Int) : ByteArray := ⟨#[109]⟩ ++ dgs m.toNat
theorem mark_loop : ∀ (d m : Nat) (out : ByteArray), m < 10 ^ d → m < 9223372036854775808 → out.size + d ≤ 100 →
    Ev (fun k => laws_markText.l0 k (m : Int) out) ((⟨#[109]⟩ : ByteArray) ++ ((if m = 0 then ⟨#[]⟩ else dgs m) ++ out)) := by
  intro d
  induction d with
  | zero =>
    intro m out h _ hs
    obtain rfl : m = 0 := by simpa using h
    refine Ev.shift ?_
    have : 1 + out.size ≤ 9223372036854775807 := by omega
    simp only [laws_markText.l0, show ¬ (((0 : Nat) : Int) > 0) by decide, if_false, if_true, empty_append_, this]
    exact Ev.now _
  | succ d ih =>
    intro m out h hm hs
    by_cases h0 : m = 0
    · subst h0
      refine Ev.shift ?_
      have : 1 + out.size ≤ 9223372036854775807 := by omega
      simp only [laws_markText.l0, show ¬ (((0 : Nat) : Int) > 0) by decide, if_false, if_true, empty_append_, this]
      exact Ev.now _
    · have hd := ih (m / 10) (⟨#[UInt8.ofNat (48 + m % 10)]⟩ ++ out) (by rw [Nat.pow_succ] at h; omega) (by omega) (by rw [ByteArray.size_append]; show 1 + _ + _ ≤ _; omega)
      have hsz : (⟨#[UInt8.ofNat (48 + m % 10)]⟩ : ByteArray).size + out.size ≤ 9223372036854775807 := by show 1 + out.size ≤ _; omega
      have hdig : strOfNums [(wrap64 (48 + ((m % 10 : Nat) : Int))) % 256] = ⟨#[UInt8.ofNat (48 + m % 10)]⟩ := digit_str (by omega) (by omega)
      have hres : (if m / 10 = 0 then (⟨#[]⟩ : ByteArray) else dgs (m / 10)) ++ (⟨#[UInt8.ofNat (48 + m % 10)]⟩ ++ out) = (if m = 0 then ⟨#[]⟩ else dgs m) ++ out := by
        rw [if_neg h0]
        by_cases h9 : m < 10
        · rw [if_pos (by omega), dgs_lt h9, empty_append_, Nat.mod_eq_of_lt h9]
        · rw [if_neg (by omega), dgs_ge h9, append_assoc_]
      rw [hres] at hd
      refine Ev.shift ?_
      have c1 : (m : Int) > 0 := by omega
      have c3 : wrap64 ((m / 10 : Nat) : Int) = ((m / 10 : Nat) : Int) := w64 (by omega) (by omega)
      simp only [laws_markText.l0, c1, if_true, tmod_pos, Option.bind_some, hdig, hsz, tdiv_pos, c3]
      exact hd
theorem markText_ev (m : Int) (h0 : 0 < m) (h1 : m < 9223372036854775808) : Ev (fun k => laws_markText.f k m) (mtext m) := by
  obtain ⟨n, rfl⟩ : ∃ n : Nat, m = (n : Int) := ⟨m.toNat, by omega⟩
  have h := mark_loop 19 n ⟨#[]⟩ (by omega) (by omega) (by show 0 + 19 ≤ 100; omega)
  have c : ¬ ((n : Int) ≤ 0) := by omega
  simp only [laws_markText.f, c, if_false]
  refine h.to ?_
  rw [append_empty_, if_neg (by omega)]
  rfl
end Go.Proofs.Ytgnmdhkkbkoghaa.P

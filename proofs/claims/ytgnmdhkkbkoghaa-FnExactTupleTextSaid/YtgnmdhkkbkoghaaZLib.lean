/- Small words for contracts of Go's library told in the printer's form; for any program. -/
import Derived.Test.YtgnmdhkkbkoghaaWWords
import Derived.Test.YtgnmdhkkbkoghaaWLast
import Derived.Test.YtgnmdhkkbkoghaaWMore
namespace Go.Proofs.YtgnmdhkkbkoghaaZ
open Go.RowKit Go.Proofs.YtgnmdhkkbkoghaaW.PrintWords Go.Proofs.YtgnmdhkkbkoghaaW.PrintLast
/-- Where a row of one-cell elements is read that is not empty: a plain address, and its cells. -/
theorem C_plain {α : Type} {enc : α → Value} {h1 : ∀ x, (enc x).oneCell' = true} {w : World} {A : Option Addr} {xs : List α} (h : (Kd.scalar enc h1).C w A xs.length xs) (hp : 0 < xs.length) :
    ∃ b o, A = some ⟨b, o, none⟩ ∧ b < w.heap.size ∧ ∀ (j : Nat) x, xs[j]? = some x → w.cell? ⟨b, o + j, none⟩ = some (enc x) := by
  obtain ⟨ad, rfl, hc⟩ := h.2.2 hp
  have hcell : ∀ (j : Nat) x, xs[j]? = some x → w.cell? (ad.add j) = some (enc x) := by
    intro j x hj
    obtain ⟨c, _, hK, hu⟩ := hc j x hj
    have hK' : c = [enc x] := hK
    subst hK'
    have := hu 0 (enc x) rfl
    have h1 : (Kd.scalar enc h1).sz = 1 := rfl
    rw [h1, Nat.mul_one, Nat.add_zero] at this
    exact this
  have h0 : w.cell? ad = some (enc xs[0]) := by
    have := hcell 0 xs[0] (List.getElem?_eq_getElem hp)
    simpa [Addr.add] using this
  have hs : ad.spot = none := by
    rcases hsp : ad.spot with _ | s
    · rfl
    · exfalso
      unfold World.cell? at h0
      rw [hsp] at h0
      split at h0 <;> simp at h0
  obtain ⟨b, o, s⟩ := ad
  dsimp only at hs
  subst hs
  refine ⟨b, o, rfl, World.block_lt_of_cell? w _ h0, fun j x hj => ?_⟩
  have := hcell j x hj
  rw [← this]
  congr 1
  unfold Addr.add
  by_cases hj0 : j = 0
  · subst hj0; rfl
  · simp [hj0]
end Go.Proofs.YtgnmdhkkbkoghaaZ
